/- The law FnExactWithoutTrie: for every input the call answers true and leaves its arguments as they were. -/
import Derived.Test.YtnjopfckahipnaaA0
import Derived.Test.YtnjopfckahipnaaA1
import Derived.Test.YtnjopfckahipnaaA2
import Derived.Test.YtnjopfckahipnaaA3
import Derived.Test.YtnjopfckahipnaaA5
import Derived.Test.YtnjopfckahipnaaProg
import Derived.Below
import Derived.Deep.Draws
import Derived.Deep.AppendLies
import Derived.Maps.AppendAt
import Derived.OwnWalk
import Derived.Laws.BytesArg
import Derived.Laws.MakeOwn
import Derived.Laws.OwnMore
import Derived.Deep.OwnRows
import Derived.Tactics
import Derived.Lib.ConvBytes
import Derived.Laws.Slices
import Derived.WalkKit
import Derived.KernelRfl
import Derived.RowKit3
import Derived.Deep.LoopGhost
import Derived.Deep.QuietTactic
import Derived.BigQuiet
import Derived.WideLaws
import Derived.Deep.DeepCutAuto
import Derived.Deep.CutBlock
import Derived.Deep.RegionHeld3
import Derived.Laws.Rows
import Derived.Lib.AppendStr
import Derived.ArgAppend
import Derived.Laws.IdiomCopy
import Derived.OrdersHeld
import Derived.Laws.BitsLemmas
import Derived.RowKit
import Derived.Lib.SlicesCompact
import Derived.Maps.Own
import Derived.StringKeys
import Derived.Maps.OwnOps
import Derived.Maps.OwnSet
import Derived.Maps.Views
import Derived.Laws.AppendOwn
import Derived.Deep.DrawnRows
import Derived.Shelf.Sort.Plain
import Derived.Shelf.Slices.CompactS
import Derived.Shelf.Slices.In.SortNone
import Derived.RangeFuncBox
import Derived.RangeFuncLeaves
import Derived.Shelf.Abstract
import Derived.OwnWalkIn
import Derived.TacticsInMore
import Derived.LoopNIn
import Derived.LoopIn
import Derived.Lib.OwnBridge
import Derived.Sort.OwnSorted
import Derived.Sort.Grow
import Derived.Shelf.Strings.OnBuilder
import Derived.Ground.NamesProg
import Derived.Ground.SlgfProg
import Derived.Sort.Walk0
import Derived.Lib.Strings
import Derived.Shelf.SlicesE.DeleteFunc
import Derived.Lib.SliceRun
import Derived.Lib.SlKept
import Derived.Deep.Slices
import Derived.Deep.Fields
import Derived.ChangeSame
import Derived.ChangeArms
import Derived.WideShapes
import Derived.Test.YtnjopfckahipnaaRows
import Derived.ProofKit
import Derived.OpenShut
import Derived.ShutString
import Derived.ChangeOld
import Derived.SizedLaws
import Derived.Carry
set_option linter.unusedVariables false
set_option linter.unusedSimpArgs false
namespace Go.Proofs.Ytnjopfckahipnaa.Q
open Go.RowKit Go.Proofs.YtnjopfckahipnaaW.PrintWords Go.Proofs.YtnjopfckahipnaaW.PrintLast Go.Proofs.YtnjopfckahipnaaW.PrintMore
attribute [local go_sem] run_field_23 run_field_24 run_field_31 run_field_32 run_field_38 run_field_39 isSome_setCell max2_int min2_int max_two min_two max_three min_three max_four min_four   -- for this text's walks alone
set_option linter.unusedVariables false
set_option linter.unusedSimpArgs false
mutual
def laws_FnExactWithoutTrie.j0 : Nat → Bool → Bool → Bool → List (S72) → List (S72) → List (S67) → List (S67) → List (S67) → List (S67) → Option (Bool)
  | 0, _, _, _, _, _, _, _, _, _ => none
  | k + 1, x7, x11, x53, x445000, x446000, x459000, x463000, x467000, x472000 => if x53 = true then (some false) else ((laws_toTrie.f k x445000).bind fun t473 => ((laws_eqTrie.f k x463000 t473).bind fun t476 => (if t476 = true then ((laws_toTrie.f k x446000).bind fun t477 => ((laws_eqTrie.f k x467000 t477).bind fun t480 => (if t480 = true then ((laws_markTrie.f k x463000 1).bind fun bt481 => ((laws_markTrie.f k x467000 bt481.1).bind fun bt483 => (if bt483.1 < 0 then (laws_FnExactWithoutTrie.j1 k x7 true x445000 x446000 x459000 x472000) else ((laws_eqTrie.f k x472000 x459000).bind fun t485 => (if t485 = true then (laws_FnExactWithoutTrie.j1 k x7 (x11 != x7) x445000 x446000 x459000 x472000) else (laws_FnExactWithoutTrie.j1 k x7 true x445000 x446000 x459000 x472000)))))) else (some false)))) else (some false))))
def laws_FnExactWithoutTrie.j1 : Nat → Bool → Bool → List (S72) → List (S72) → List (S67) → List (S67) → Option (Bool)
  | 0, _, _, _, _, _, _ => none
  | k + 1, x7, x82, x445000, x446000, x459000, x472000 => if x82 = true then (some false) else ((laws_markTrie.f k x472000 1).bind fun bt486 => ((laws_heldTrie.f k bt486.2 1).bind fun t488 => (if t488 < 0 then (some false) else (if t488 = bt486.1 then ((laws_toTrie.f k x445000).bind fun t489 => ((laws_toTrie.f k x446000).bind fun t492 => ((impl_WithoutTrie.f t489 t492).bind fun bt495 => ((laws_eqTrie.f k bt495.1 x459000).bind fun t500 => (if t500 = true then (laws_FnExactWithoutTrie.j2 k bt486.1 (bt495.2 != x7) bt486.2) else (laws_FnExactWithoutTrie.j2 k bt486.1 true bt486.2)))))) else (some false)))))
def laws_FnExactWithoutTrie.j2 : Nat → Int → Bool → List (S67) → Option (Bool)
  | 0, _, _, _ => none
  | k + 1, x13, x110, x472000 => if x110 = true then (some false) else ((laws_heldTrie.f k x472000 1).bind fun t501 => (if t501 < 0 then (some false) else (if t501 = x13 then (some true) else (some false))))
end
def laws_FnExactWithoutTrie.f (k : Nat) (l0_0 : List (S72)) (l1_0 : List (S72)) : Option (Bool) := (laws_szTrie.f l0_0 1048576).bind fun t446 => (if t446 < 0 then (some true) else ((laws_szTrie.f l1_0 t446).bind fun t447 => (if t447 < 0 then (some true) else ((laws_toTrie.f k l0_0).bind fun t448 => ((laws_toTrie.f k l1_0).bind fun t451 => ((spec_WithoutTrie.f k t448 t451).bind fun bt454 => ((laws_toTrie.f k l0_0).bind fun t459 => ((laws_toTrie.f k l1_0).bind fun t463 => ((impl_WithoutTrie.f t459 t463).bind fun bt467 => ((laws_eqTrie.f k bt467.1 bt454.1).bind fun t472 => (if t472 = true then (laws_FnExactWithoutTrie.j0 k bt454.2 bt467.2 (bt467.2 != bt454.2) l0_0 l1_0 bt454.1 t459 t463 bt467.1) else (laws_FnExactWithoutTrie.j0 k bt454.2 bt467.2 true l0_0 l1_0 bt454.1 t459 t463 bt467.1))))))))))))
def laws_FnExactWithoutTrie.T8 : Bool × List (List Nat × List Nat) := (true, [([], []), ([0], [0]), ([], []), ([2, 1], [2]), ([1, 3, 3], [1, 3]), ([4], [4]), ([5], [5]), ([5], [5]), ([], []), ([8, 6, 4, 0, 1, 2, 3, 4, 5, 6, 8], [6, 8]), ([7, 9, 0, 1, 2, 3, 4, 5, 6, 7, 8, 9], [7])])
def laws_FnExactWithoutTrie.B8 : List Nat := [0, 1, 0, 7, 15, 31, 63, 63, 0, 383, 1023]
theorem laws_FnExactWithoutTrie.tab8 : rtab .any (opsOf Try.f5 8) = laws_FnExactWithoutTrie.T8 := by kernel_rfl
theorem laws_FnExactWithoutTrie.bits8 : waitsOk laws_FnExactWithoutTrie.T8.2 laws_FnExactWithoutTrie.B8 = true := by kernel_rfl
def laws_FnExactWithoutTrie.T31 : Bool × List (List Nat × List Nat) := (true, [([], []), ([0], [0]), ([], []), ([2, 1], [2]), ([1, 3, 3], [1, 3]), ([4], [4]), ([5], [5]), ([5], [5]), ([], []), ([8, 6, 4, 0, 1, 2, 3, 4, 5, 6, 8], [6, 8]), ([7, 9, 0, 1, 2, 3, 4, 5, 6, 7, 8, 9], [7])])
def laws_FnExactWithoutTrie.B31 : List Nat := [0, 1, 0, 7, 15, 31, 63, 63, 0, 383, 1023]
theorem laws_FnExactWithoutTrie.tab31 : rtab .any (opsOf Try.f5 31) = laws_FnExactWithoutTrie.T31 := by kernel_rfl
theorem laws_FnExactWithoutTrie.bits31 : waitsOk laws_FnExactWithoutTrie.T31.2 laws_FnExactWithoutTrie.B31 = true := by kernel_rfl
set_option maxHeartbeats 8000000 in
set_option maxRecDepth 100000 in
theorem laws_FnExactWithoutTrie.calls (k : Nat) (A0_0 : Option Addr) (c0_0 : Nat) (l0_0 : List (S72)) (A1_0 : Option Addr) (c1_0 : Nat) (l1_0 : List (S72)) (r : Bool) (w : World) (hr0_0 : Kd.C k72 w A0_0 l0_0.length l0_0) (hc0_0 : l0_0.length ≤ c0_0) (hr1_0 : Kd.C k72 w A1_0 l1_0.length l1_0) (hc1_0 : l1_0.length ≤ c1_0) (h : laws_FnExactWithoutTrie.f k l0_0 l1_0 = some true) :
  Calls Try.prog 5 #[.agg #[.slice A0_0 l0_0.length c0_0], .agg #[.slice A1_0 l1_0.length c1_0]] w fun e w' => e = .returned (.bool true) ∧ Below w.heap.size w w' := by
 have hu32 := Try.underlying32
 have hu24 := Try.underlying24
 have HR0_0 := Aside0.mk hr0_0
 have HC0_0 := Aside0.mk hc0_0
 clear hr0_0 hc0_0
 have HR1_0 := Aside0.mk hr1_0
 have HC1_0 := Aside0.mk hc1_0
 clear hr1_0 hc1_0
 have HB := Aside0.mk (Below.refl w.heap.size w)
 have H : ((laws_szTrie.f l0_0 1048576).bind fun t446 => (if t446 < 0 then (some true) else ((laws_szTrie.f l1_0 t446).bind fun t447 => (if t447 < 0 then (some true) else ((laws_toTrie.f k l0_0).bind fun t448 => ((laws_toTrie.f k l1_0).bind fun t451 => ((spec_WithoutTrie.f k t448 t451).bind fun bt454 => ((laws_toTrie.f k l0_0).bind fun t459 => ((laws_toTrie.f k l1_0).bind fun t463 => ((impl_WithoutTrie.f t459 t463).bind fun bt467 => ((laws_eqTrie.f k bt467.1 bt454.1).bind fun t472 => (if t472 = true then (laws_FnExactWithoutTrie.j0 k bt454.2 bt467.2 (bt467.2 != bt454.2) l0_0 l1_0 bt454.1 t459 t463 bt467.1) else (laws_FnExactWithoutTrie.j0 k bt454.2 bt467.2 true l0_0 l1_0 bt454.1 t459 t463 bt467.1))))))))))))) = some true := h
 clear h
 replace H := Option.bind_eq_some_iff.mp H
 obtain ⟨t446, A30, H⟩ := H
 replace H : (if t446 < 0 then (some true) else ((laws_szTrie.f l1_0 t446).bind fun t447 => (if t447 < 0 then (some true) else ((laws_toTrie.f k l0_0).bind fun t448 => ((laws_toTrie.f k l1_0).bind fun t451 => ((spec_WithoutTrie.f k t448 t451).bind fun bt454 => ((laws_toTrie.f k l0_0).bind fun t459 => ((laws_toTrie.f k l1_0).bind fun t463 => ((impl_WithoutTrie.f t459 t463).bind fun bt467 => ((laws_eqTrie.f k bt467.1 bt454.1).bind fun t472 => (if t472 = true then (laws_FnExactWithoutTrie.j0 k bt454.2 bt467.2 (bt467.2 != bt454.2) l0_0 l1_0 bt454.1 t459 t463 bt467.1) else (laws_FnExactWithoutTrie.j0 k bt454.2 bt467.2 true l0_0 l1_0 bt454.1 t459 t463 bt467.1)))))))))))) = some true := H
 have A3 := Aside0.mk A30
 clear A30
 by_cases c4 : t446 < 0
 ·rw [if_pos c4] at H
  have c4b0 : decide (t446 < 0) = true := decide_eq_true c4
  clear c4
  (first | (obtain rfl := Option.some.inj H) | (have hH_ := Option.some.inj H; try simp only [hH_]))
  go_enter Try.func5, Try.ntmps5
  go_wp2_with (first | ((with_reducible refine gate_dst (N := 2) rfl ?_); refine box_event ?hg (N := 2) ?hd (cs := #[.slice A0_0 l0_0.length c0_0]) (t := 32) ?hr ?_; (case hd => rfl); (case hg => rfl); (case hr => first | (go_simp; done) | (go_simp; rfl)); intro gb444 hg w5 hbox hb; have n0_ := Aside0.mk (below_step (by repeat (first | (with_reducible first | exact HB.out | apply below_alloc | apply pw_below_drewN | apply below_drew1) | exact HB.out)) hb); have n1_ := Aside0.mk (hbox); have n2_ := Aside0.mk ((by rw [hg]; exact (below_size (by repeat (first | (with_reducible first | exact HB.out | apply below_alloc | apply pw_below_drewN | apply below_drew1) | exact HB.out))) : w.heap.size ≤ gb444)); have n3_ := Aside0.mk ((by rw [hg]; exact (below_size (by repeat (first | (with_reducible first | exact HB.out | apply below_alloc | apply pw_below_drewN | apply below_drew1) | exact HB.out))) : w.heap.size ≤ gb444)); clear HB; have HB := n0_; have BK444 := n1_; have GW444 := n2_; have GE444 := n3_; clear n0_ n1_ n2_ n3_; clear hb hbox hg) | ((with_reducible refine gate_dst (N := 3) rfl ?_); refine box_event ?hg (N := 3) ?hd (cs := #[.slice A1_0 l1_0.length c1_0]) (t := 32) ?hr ?_; (case hd => rfl); (case hg => rfl); (case hr => first | (go_simp; done) | (go_simp; rfl)); intro gb445 hg w6 hbox hb; have n0_ := Aside0.mk (blk_below (g := gb444) (o := .cells #[.slice A0_0 l0_0.length c0_0] 32 (0, 0)) (by (with_reducible repeat (first | refine blk_drewN ?_ _ | refine blk_drew ?_ | refine blk_alloc ?_ _)); exact BK444.out) hb); have n1_ := Aside0.mk (below_step (by repeat (first | (with_reducible first | exact HB.out | apply below_alloc | apply pw_below_drewN | apply below_drew1 | refine below_set ?_ GE444.out) | exact HB.out)) hb); have n2_ := Aside0.mk (hbox); have n3_ := Aside0.mk ((by rw [hg]; exact (below_size (by repeat (first | (with_reducible first | exact HB.out | apply below_alloc | apply pw_below_drewN | apply below_drew1 | refine below_set ?_ GE444.out) | exact HB.out))) : w.heap.size ≤ gb445)); have n4_ := Aside0.mk ((by rw [hg]; exact (below_size (by repeat (first | (with_reducible first | exact HB.out | apply below_alloc | apply pw_below_drewN | apply below_drew1 | refine below_set ?_ GE444.out) | exact HB.out))) : w.heap.size ≤ gb445)); have n5_ := Aside0.mk ((by rw [hg]; exact Nat.ne_of_lt (blk_lt (g := gb444) (o := .cells #[.slice A0_0 l0_0.length c0_0] 32 (0, 0)) (by (with_reducible repeat (first | refine blk_drewN ?_ _ | refine blk_drew ?_ | refine blk_alloc ?_ _)); exact BK444.out)) : gb444 ≠ gb445)); have n6_ := Aside0.mk ((by rw [hg]; exact Nat.ne_of_gt (blk_lt (g := gb444) (o := .cells #[.slice A0_0 l0_0.length c0_0] 32 (0, 0)) (by (with_reducible repeat (first | refine blk_drewN ?_ _ | refine blk_drew ?_ | refine blk_alloc ?_ _)); exact BK444.out)) : gb445 ≠ gb444)); clear BK444; clear HB; have BK444 := n0_; have HB := n1_; have BK445 := n2_; have GW445 := n3_; have GE445 := n4_; have NB444_445 := n5_; have NB445_444 := n6_; clear n0_ n1_ n2_ n3_ n4_ n5_ n6_; clear hb hbox hg; have hnb7 := NB444_445.out; have hnc7 := NB445_444.out; have hcz8_0 : w6.cell? ⟨gb444, 0, none⟩ = some (.slice A0_0 l0_0.length c0_0) := (blk_cell BK444.out 0).trans rfl; have hfz8_0 := blk_frozen BK444.out 0) | ((with_reducible refine gate_callee (f := 12) rfl ?_); refine goesL_ (some 19) rfl rfl Try.func12 (by kernel_rfl) rfl #[.agg #[.slice A0_0 l0_0.length c0_0], .int .i64 1048576] rfl (by (try simp only [List.map_toArray, List.map_cons, List.map_nil]); first | done | rfl | (simp only [List.length_drop, List.length_take]; rfl)) ?_; (with_reducible refine (laws_szTrie.calls _ _ l0_0 1048576 t446 _ ?side1 ?side2 A3.out).mono ?_); (case side1 => repeat (first | exact (Kd.C_below HR0_0.out HB.out) | (with_reducible refine Kd.C_alloc ?_ _) | (with_reducible refine Kd.C_drewN ?_ _) | (with_reducible refine Kd.C_drew ?_))); (case side2 => exact HC0_0.out); rintro e w9 ⟨rfl, hb⟩; refine ⟨_, rfl, ?_⟩; have n0_ := Aside0.mk (blk_below (g := gb444) (o := .cells #[.slice A0_0 l0_0.length c0_0] 32 (0, 0)) (by (with_reducible repeat (first | refine blk_drewN ?_ _ | refine blk_drew ?_ | refine blk_alloc ?_ _)); exact BK444.out) hb); have n1_ := Aside0.mk (blk_below (g := gb445) (o := .cells #[.slice A1_0 l1_0.length c1_0] 32 (0, 0)) (by (with_reducible repeat (first | refine blk_drewN ?_ _ | refine blk_drew ?_ | refine blk_alloc ?_ _)); exact BK445.out) hb); have n2_ := Aside0.mk (below_step (by repeat (first | (with_reducible first | exact HB.out | apply below_alloc | apply pw_below_drewN | apply below_drew1 | refine below_set ?_ GE444.out | refine below_set ?_ GE445.out) | exact HB.out)) hb); clear BK444; clear BK445; clear HB; have BK444 := n0_; have BK445 := n1_; have HB := n2_; clear n0_ n1_ n2_; (try clear hb); (try clear hb2); (try clear hk); (try clear hi)))
  go_ret
  exact ⟨by first | rfl | (simp [errW_none, errW_some] <;> rfl) | (simp [*, errW_none, errW_some] <;> rfl), by repeat (first | (with_reducible first | exact HB.out | apply below_alloc | apply pw_below_drewN | apply below_drew1 | refine below_set ?_ GE444.out | refine below_set ?_ GE445.out) | exact HB.out)⟩
 ·rw [if_neg c4] at H
  have c4b0 : decide (t446 < 0) = false := decide_eq_false c4
  clear c4
  replace H := Option.bind_eq_some_iff.mp H
  obtain ⟨t447, A100, H⟩ := H
  replace H : (if t447 < 0 then (some true) else ((laws_toTrie.f k l0_0).bind fun t448 => ((laws_toTrie.f k l1_0).bind fun t451 => ((spec_WithoutTrie.f k t448 t451).bind fun bt454 => ((laws_toTrie.f k l0_0).bind fun t459 => ((laws_toTrie.f k l1_0).bind fun t463 => ((impl_WithoutTrie.f t459 t463).bind fun bt467 => ((laws_eqTrie.f k bt467.1 bt454.1).bind fun t472 => (if t472 = true then (laws_FnExactWithoutTrie.j0 k bt454.2 bt467.2 (bt467.2 != bt454.2) l0_0 l1_0 bt454.1 t459 t463 bt467.1) else (laws_FnExactWithoutTrie.j0 k bt454.2 bt467.2 true l0_0 l1_0 bt454.1 t459 t463 bt467.1)))))))))) = some true := H
  have A10 := Aside0.mk A100
  clear A100
  by_cases c11 : t447 < 0
  ·rw [if_pos c11] at H
   have c11b0 : decide (t447 < 0) = true := decide_eq_true c11
   clear c11
   (first | (obtain rfl := Option.some.inj H) | (have hH_ := Option.some.inj H; try simp only [hH_]))
   go_enter Try.func5, Try.ntmps5
   go_wp2_with (first | ((with_reducible refine gate_dst (N := 2) rfl ?_); refine box_event ?hg (N := 2) ?hd (cs := #[.slice A0_0 l0_0.length c0_0]) (t := 32) ?hr ?_; (case hd => rfl); (case hg => rfl); (case hr => first | (go_simp; done) | (go_simp; rfl)); intro gb444 hg w12 hbox hb; have n0_ := Aside0.mk (below_step (by repeat (first | (with_reducible first | exact HB.out | apply below_alloc | apply pw_below_drewN | apply below_drew1) | exact HB.out)) hb); have n1_ := Aside0.mk (hbox); have n2_ := Aside0.mk ((by rw [hg]; exact (below_size (by repeat (first | (with_reducible first | exact HB.out | apply below_alloc | apply pw_below_drewN | apply below_drew1) | exact HB.out))) : w.heap.size ≤ gb444)); have n3_ := Aside0.mk ((by rw [hg]; exact (below_size (by repeat (first | (with_reducible first | exact HB.out | apply below_alloc | apply pw_below_drewN | apply below_drew1) | exact HB.out))) : w.heap.size ≤ gb444)); clear HB; have HB := n0_; have BK444 := n1_; have GW444 := n2_; have GE444 := n3_; clear n0_ n1_ n2_ n3_; clear hb hbox hg) | ((with_reducible refine gate_dst (N := 3) rfl ?_); refine box_event ?hg (N := 3) ?hd (cs := #[.slice A1_0 l1_0.length c1_0]) (t := 32) ?hr ?_; (case hd => rfl); (case hg => rfl); (case hr => first | (go_simp; done) | (go_simp; rfl)); intro gb445 hg w13 hbox hb; have n0_ := Aside0.mk (blk_below (g := gb444) (o := .cells #[.slice A0_0 l0_0.length c0_0] 32 (0, 0)) (by (with_reducible repeat (first | refine blk_drewN ?_ _ | refine blk_drew ?_ | refine blk_alloc ?_ _)); exact BK444.out) hb); have n1_ := Aside0.mk (below_step (by repeat (first | (with_reducible first | exact HB.out | apply below_alloc | apply pw_below_drewN | apply below_drew1 | refine below_set ?_ GE444.out) | exact HB.out)) hb); have n2_ := Aside0.mk (hbox); have n3_ := Aside0.mk ((by rw [hg]; exact (below_size (by repeat (first | (with_reducible first | exact HB.out | apply below_alloc | apply pw_below_drewN | apply below_drew1 | refine below_set ?_ GE444.out) | exact HB.out))) : w.heap.size ≤ gb445)); have n4_ := Aside0.mk ((by rw [hg]; exact (below_size (by repeat (first | (with_reducible first | exact HB.out | apply below_alloc | apply pw_below_drewN | apply below_drew1 | refine below_set ?_ GE444.out) | exact HB.out))) : w.heap.size ≤ gb445)); have n5_ := Aside0.mk ((by rw [hg]; exact Nat.ne_of_lt (blk_lt (g := gb444) (o := .cells #[.slice A0_0 l0_0.length c0_0] 32 (0, 0)) (by (with_reducible repeat (first | refine blk_drewN ?_ _ | refine blk_drew ?_ | refine blk_alloc ?_ _)); exact BK444.out)) : gb444 ≠ gb445)); have n6_ := Aside0.mk ((by rw [hg]; exact Nat.ne_of_gt (blk_lt (g := gb444) (o := .cells #[.slice A0_0 l0_0.length c0_0] 32 (0, 0)) (by (with_reducible repeat (first | refine blk_drewN ?_ _ | refine blk_drew ?_ | refine blk_alloc ?_ _)); exact BK444.out)) : gb445 ≠ gb444)); clear BK444; clear HB; have BK444 := n0_; have HB := n1_; have BK445 := n2_; have GW445 := n3_; have GE445 := n4_; have NB444_445 := n5_; have NB445_444 := n6_; clear n0_ n1_ n2_ n3_ n4_ n5_ n6_; clear hb hbox hg; have hnb14 := NB444_445.out; have hnc14 := NB445_444.out; have hcz15_0 : w13.cell? ⟨gb444, 0, none⟩ = some (.slice A0_0 l0_0.length c0_0) := (blk_cell BK444.out 0).trans rfl; have hfz15_0 := blk_frozen BK444.out 0) | ((with_reducible refine gate_callee (f := 12) rfl ?_); refine goesL_ (some 19) rfl rfl Try.func12 (by kernel_rfl) rfl #[.agg #[.slice A0_0 l0_0.length c0_0], .int .i64 1048576] rfl (by (try simp only [List.map_toArray, List.map_cons, List.map_nil]); first | done | rfl | (simp only [List.length_drop, List.length_take]; rfl)) ?_; (with_reducible refine (laws_szTrie.calls _ _ l0_0 1048576 t446 _ ?side1 ?side2 A3.out).mono ?_); (case side1 => repeat (first | exact (Kd.C_below HR0_0.out HB.out) | (with_reducible refine Kd.C_alloc ?_ _) | (with_reducible refine Kd.C_drewN ?_ _) | (with_reducible refine Kd.C_drew ?_))); (case side2 => exact HC0_0.out); rintro e w16 ⟨rfl, hb⟩; refine ⟨_, rfl, ?_⟩; have n0_ := Aside0.mk (blk_below (g := gb444) (o := .cells #[.slice A0_0 l0_0.length c0_0] 32 (0, 0)) (by (with_reducible repeat (first | refine blk_drewN ?_ _ | refine blk_drew ?_ | refine blk_alloc ?_ _)); exact BK444.out) hb); have n1_ := Aside0.mk (blk_below (g := gb445) (o := .cells #[.slice A1_0 l1_0.length c1_0] 32 (0, 0)) (by (with_reducible repeat (first | refine blk_drewN ?_ _ | refine blk_drew ?_ | refine blk_alloc ?_ _)); exact BK445.out) hb); have n2_ := Aside0.mk (below_step (by repeat (first | (with_reducible first | exact HB.out | apply below_alloc | apply pw_below_drewN | apply below_drew1 | refine below_set ?_ GE444.out | refine below_set ?_ GE445.out) | exact HB.out)) hb); clear BK444; clear BK445; clear HB; have BK444 := n0_; have BK445 := n1_; have HB := n2_; clear n0_ n1_ n2_; (try clear hb); (try clear hb2); (try clear hk); (try clear hi); have hcz17_0 : w16.cell? ⟨gb445, 0, none⟩ = some (.slice A1_0 l1_0.length c1_0) := (blk_cell BK445.out 0).trans rfl; have hfz17_0 := blk_frozen BK445.out 0) | ((with_reducible refine gate_callee (f := 12) rfl ?_); refine goesL_ (some 24) rfl rfl Try.func12 (by kernel_rfl) rfl #[.agg #[.slice A1_0 l1_0.length c1_0], .int .i64 t446] rfl (by (try simp only [List.map_toArray, List.map_cons, List.map_nil]); first | done | rfl | (simp only [List.length_drop, List.length_take]; rfl)) ?_; (with_reducible refine (laws_szTrie.calls _ _ l1_0 t446 t447 _ ?side1 ?side2 A10.out).mono ?_); (case side1 => repeat (first | exact (Kd.C_below HR1_0.out HB.out) | (with_reducible refine Kd.C_alloc ?_ _) | (with_reducible refine Kd.C_drewN ?_ _) | (with_reducible refine Kd.C_drew ?_))); (case side2 => exact HC1_0.out); rintro e w18 ⟨rfl, hb⟩; refine ⟨_, rfl, ?_⟩; have n0_ := Aside0.mk (blk_below (g := gb444) (o := .cells #[.slice A0_0 l0_0.length c0_0] 32 (0, 0)) (by (with_reducible repeat (first | refine blk_drewN ?_ _ | refine blk_drew ?_ | refine blk_alloc ?_ _)); exact BK444.out) hb); have n1_ := Aside0.mk (blk_below (g := gb445) (o := .cells #[.slice A1_0 l1_0.length c1_0] 32 (0, 0)) (by (with_reducible repeat (first | refine blk_drewN ?_ _ | refine blk_drew ?_ | refine blk_alloc ?_ _)); exact BK445.out) hb); have n2_ := Aside0.mk (below_step (by repeat (first | (with_reducible first | exact HB.out | apply below_alloc | apply pw_below_drewN | apply below_drew1 | refine below_set ?_ GE444.out | refine below_set ?_ GE445.out) | exact HB.out)) hb); clear BK444; clear BK445; clear HB; have BK444 := n0_; have BK445 := n1_; have HB := n2_; clear n0_ n1_ n2_; (try clear hb); (try clear hb2); (try clear hk); (try clear hi)))
   go_ret
   exact ⟨by first | rfl | (simp [errW_none, errW_some] <;> rfl) | (simp [*, errW_none, errW_some] <;> rfl), by repeat (first | (with_reducible first | exact HB.out | apply below_alloc | apply pw_below_drewN | apply below_drew1 | refine below_set ?_ GE444.out | refine below_set ?_ GE445.out) | exact HB.out)⟩
  ·rw [if_neg c11] at H
   have c11b0 : decide (t447 < 0) = false := decide_eq_false c11
   clear c11
   replace H := Option.bind_eq_some_iff.mp H
   obtain ⟨t448, A190, H⟩ := H
   replace H : ((laws_toTrie.f k l1_0).bind fun t451 => ((spec_WithoutTrie.f k t448 t451).bind fun bt454 => ((laws_toTrie.f k l0_0).bind fun t459 => ((laws_toTrie.f k l1_0).bind fun t463 => ((impl_WithoutTrie.f t459 t463).bind fun bt467 => ((laws_eqTrie.f k bt467.1 bt454.1).bind fun t472 => (if t472 = true then (laws_FnExactWithoutTrie.j0 k bt454.2 bt467.2 (bt467.2 != bt454.2) l0_0 l1_0 bt454.1 t459 t463 bt467.1) else (laws_FnExactWithoutTrie.j0 k bt454.2 bt467.2 true l0_0 l1_0 bt454.1 t459 t463 bt467.1)))))))) = some true := H
   have A19 := Aside0.mk A190
   clear A190
   replace H := Option.bind_eq_some_iff.mp H
   obtain ⟨t451, A200, H⟩ := H
   replace H : ((spec_WithoutTrie.f k t448 t451).bind fun bt454 => ((laws_toTrie.f k l0_0).bind fun t459 => ((laws_toTrie.f k l1_0).bind fun t463 => ((impl_WithoutTrie.f t459 t463).bind fun bt467 => ((laws_eqTrie.f k bt467.1 bt454.1).bind fun t472 => (if t472 = true then (laws_FnExactWithoutTrie.j0 k bt454.2 bt467.2 (bt467.2 != bt454.2) l0_0 l1_0 bt454.1 t459 t463 bt467.1) else (laws_FnExactWithoutTrie.j0 k bt454.2 bt467.2 true l0_0 l1_0 bt454.1 t459 t463 bt467.1))))))) = some true := H
   have A20 := Aside0.mk A200
   clear A200
   replace H := Option.bind_eq_some_iff.mp H
   obtain ⟨⟨t454, t457⟩, A210, H⟩ := H
   replace H : ((laws_toTrie.f k l0_0).bind fun t459 => ((laws_toTrie.f k l1_0).bind fun t463 => ((impl_WithoutTrie.f t459 t463).bind fun bt467 => ((laws_eqTrie.f k bt467.1 t454).bind fun t472 => (if t472 = true then (laws_FnExactWithoutTrie.j0 k t457 bt467.2 (bt467.2 != t457) l0_0 l1_0 t454 t459 t463 bt467.1) else (laws_FnExactWithoutTrie.j0 k t457 bt467.2 true l0_0 l1_0 t454 t459 t463 bt467.1)))))) = some true := H
   have A21 := Aside0.mk A210
   clear A210
   replace H := Option.bind_eq_some_iff.mp H
   obtain ⟨t459, A220, H⟩ := H
   replace H : ((laws_toTrie.f k l1_0).bind fun t463 => ((impl_WithoutTrie.f t459 t463).bind fun bt467 => ((laws_eqTrie.f k bt467.1 t454).bind fun t472 => (if t472 = true then (laws_FnExactWithoutTrie.j0 k t457 bt467.2 (bt467.2 != t457) l0_0 l1_0 t454 t459 t463 bt467.1) else (laws_FnExactWithoutTrie.j0 k t457 bt467.2 true l0_0 l1_0 t454 t459 t463 bt467.1))))) = some true := H
   have A22 := Aside0.mk A220
   clear A220
   replace H := Option.bind_eq_some_iff.mp H
   obtain ⟨t463, A230, H⟩ := H
   replace H : ((impl_WithoutTrie.f t459 t463).bind fun bt467 => ((laws_eqTrie.f k bt467.1 t454).bind fun t472 => (if t472 = true then (laws_FnExactWithoutTrie.j0 k t457 bt467.2 (bt467.2 != t457) l0_0 l1_0 t454 t459 t463 bt467.1) else (laws_FnExactWithoutTrie.j0 k t457 bt467.2 true l0_0 l1_0 t454 t459 t463 bt467.1)))) = some true := H
   have A23 := Aside0.mk A230
   clear A230
   replace H := Option.bind_eq_some_iff.mp H
   obtain ⟨⟨t467, t470⟩, A240, H⟩ := H
   replace H : ((laws_eqTrie.f k t467 t454).bind fun t472 => (if t472 = true then (laws_FnExactWithoutTrie.j0 k t457 t470 (t470 != t457) l0_0 l1_0 t454 t459 t463 t467) else (laws_FnExactWithoutTrie.j0 k t457 t470 true l0_0 l1_0 t454 t459 t463 t467))) = some true := H
   have A24 := Aside0.mk A240
   clear A240
   have HC25 := Aside0.mk H
   clear H
   go_enter Try.func5, Try.ntmps5
   try go_wp2_with (first | ((with_reducible refine gate_dst (N := 2) rfl ?_); refine box_event ?hg (N := 2) ?hd (cs := #[.slice A0_0 l0_0.length c0_0]) (t := 32) ?hr ?_; (case hd => rfl); (case hg => rfl); (case hr => first | (go_simp; done) | (go_simp; rfl)); intro gb444 hg w26 hbox hb; have n0_ := Aside0.mk (below_step (by repeat (first | (with_reducible first | exact HB.out | apply below_alloc | apply pw_below_drewN | apply below_drew1) | exact HB.out)) hb); have n1_ := Aside0.mk (hbox); have n2_ := Aside0.mk ((by rw [hg]; exact (below_size (by repeat (first | (with_reducible first | exact HB.out | apply below_alloc | apply pw_below_drewN | apply below_drew1) | exact HB.out))) : w.heap.size ≤ gb444)); have n3_ := Aside0.mk ((by rw [hg]; exact (below_size (by repeat (first | (with_reducible first | exact HB.out | apply below_alloc | apply pw_below_drewN | apply below_drew1) | exact HB.out))) : w.heap.size ≤ gb444)); clear HB; have HB := n0_; have BK444 := n1_; have GW444 := n2_; have GE444 := n3_; clear n0_ n1_ n2_ n3_; clear hb hbox hg) | ((with_reducible refine gate_dst (N := 3) rfl ?_); refine box_event ?hg (N := 3) ?hd (cs := #[.slice A1_0 l1_0.length c1_0]) (t := 32) ?hr ?_; (case hd => rfl); (case hg => rfl); (case hr => first | (go_simp; done) | (go_simp; rfl)); intro gb445 hg w27 hbox hb; have n0_ := Aside0.mk (blk_below (g := gb444) (o := .cells #[.slice A0_0 l0_0.length c0_0] 32 (0, 0)) (by (with_reducible repeat (first | refine blk_drewN ?_ _ | refine blk_drew ?_ | refine blk_alloc ?_ _)); exact BK444.out) hb); have n1_ := Aside0.mk (below_step (by repeat (first | (with_reducible first | exact HB.out | apply below_alloc | apply pw_below_drewN | apply below_drew1 | refine below_set ?_ GE444.out) | exact HB.out)) hb); have n2_ := Aside0.mk (hbox); have n3_ := Aside0.mk ((by rw [hg]; exact (below_size (by repeat (first | (with_reducible first | exact HB.out | apply below_alloc | apply pw_below_drewN | apply below_drew1 | refine below_set ?_ GE444.out) | exact HB.out))) : w.heap.size ≤ gb445)); have n4_ := Aside0.mk ((by rw [hg]; exact (below_size (by repeat (first | (with_reducible first | exact HB.out | apply below_alloc | apply pw_below_drewN | apply below_drew1 | refine below_set ?_ GE444.out) | exact HB.out))) : w.heap.size ≤ gb445)); have n5_ := Aside0.mk ((by rw [hg]; exact Nat.ne_of_lt (blk_lt (g := gb444) (o := .cells #[.slice A0_0 l0_0.length c0_0] 32 (0, 0)) (by (with_reducible repeat (first | refine blk_drewN ?_ _ | refine blk_drew ?_ | refine blk_alloc ?_ _)); exact BK444.out)) : gb444 ≠ gb445)); have n6_ := Aside0.mk ((by rw [hg]; exact Nat.ne_of_gt (blk_lt (g := gb444) (o := .cells #[.slice A0_0 l0_0.length c0_0] 32 (0, 0)) (by (with_reducible repeat (first | refine blk_drewN ?_ _ | refine blk_drew ?_ | refine blk_alloc ?_ _)); exact BK444.out)) : gb445 ≠ gb444)); clear BK444; clear HB; have BK444 := n0_; have HB := n1_; have BK445 := n2_; have GW445 := n3_; have GE445 := n4_; have NB444_445 := n5_; have NB445_444 := n6_; clear n0_ n1_ n2_ n3_ n4_ n5_ n6_; clear hb hbox hg; have hnb28 := NB444_445.out; have hnc28 := NB445_444.out; have hcz29_0 : w27.cell? ⟨gb444, 0, none⟩ = some (.slice A0_0 l0_0.length c0_0) := (blk_cell BK444.out 0).trans rfl; have hfz29_0 := blk_frozen BK444.out 0) | ((with_reducible refine gate_callee (f := 12) rfl ?_); refine goesL_ (some 19) rfl rfl Try.func12 (by kernel_rfl) rfl #[.agg #[.slice A0_0 l0_0.length c0_0], .int .i64 1048576] rfl (by (try simp only [List.map_toArray, List.map_cons, List.map_nil]); first | done | rfl | (simp only [List.length_drop, List.length_take]; rfl)) ?_; (with_reducible refine (laws_szTrie.calls _ _ l0_0 1048576 t446 _ ?side1 ?side2 A3.out).mono ?_); (case side1 => repeat (first | exact (Kd.C_below HR0_0.out HB.out) | (with_reducible refine Kd.C_alloc ?_ _) | (with_reducible refine Kd.C_drewN ?_ _) | (with_reducible refine Kd.C_drew ?_))); (case side2 => exact HC0_0.out); rintro e w30 ⟨rfl, hb⟩; refine ⟨_, rfl, ?_⟩; have n0_ := Aside0.mk (blk_below (g := gb444) (o := .cells #[.slice A0_0 l0_0.length c0_0] 32 (0, 0)) (by (with_reducible repeat (first | refine blk_drewN ?_ _ | refine blk_drew ?_ | refine blk_alloc ?_ _)); exact BK444.out) hb); have n1_ := Aside0.mk (blk_below (g := gb445) (o := .cells #[.slice A1_0 l1_0.length c1_0] 32 (0, 0)) (by (with_reducible repeat (first | refine blk_drewN ?_ _ | refine blk_drew ?_ | refine blk_alloc ?_ _)); exact BK445.out) hb); have n2_ := Aside0.mk (below_step (by repeat (first | (with_reducible first | exact HB.out | apply below_alloc | apply pw_below_drewN | apply below_drew1 | refine below_set ?_ GE444.out | refine below_set ?_ GE445.out) | exact HB.out)) hb); clear BK444; clear BK445; clear HB; have BK444 := n0_; have BK445 := n1_; have HB := n2_; clear n0_ n1_ n2_; (try clear hb); (try clear hb2); (try clear hk); (try clear hi); have hcz31_0 : w30.cell? ⟨gb445, 0, none⟩ = some (.slice A1_0 l1_0.length c1_0) := (blk_cell BK445.out 0).trans rfl; have hfz31_0 := blk_frozen BK445.out 0) | ((with_reducible refine gate_callee (f := 12) rfl ?_); refine goesL_ (some 24) rfl rfl Try.func12 (by kernel_rfl) rfl #[.agg #[.slice A1_0 l1_0.length c1_0], .int .i64 t446] rfl (by (try simp only [List.map_toArray, List.map_cons, List.map_nil]); first | done | rfl | (simp only [List.length_drop, List.length_take]; rfl)) ?_; (with_reducible refine (laws_szTrie.calls _ _ l1_0 t446 t447 _ ?side1 ?side2 A10.out).mono ?_); (case side1 => repeat (first | exact (Kd.C_below HR1_0.out HB.out) | (with_reducible refine Kd.C_alloc ?_ _) | (with_reducible refine Kd.C_drewN ?_ _) | (with_reducible refine Kd.C_drew ?_))); (case side2 => exact HC1_0.out); rintro e w32 ⟨rfl, hb⟩; refine ⟨_, rfl, ?_⟩; have n0_ := Aside0.mk (blk_below (g := gb444) (o := .cells #[.slice A0_0 l0_0.length c0_0] 32 (0, 0)) (by (with_reducible repeat (first | refine blk_drewN ?_ _ | refine blk_drew ?_ | refine blk_alloc ?_ _)); exact BK444.out) hb); have n1_ := Aside0.mk (blk_below (g := gb445) (o := .cells #[.slice A1_0 l1_0.length c1_0] 32 (0, 0)) (by (with_reducible repeat (first | refine blk_drewN ?_ _ | refine blk_drew ?_ | refine blk_alloc ?_ _)); exact BK445.out) hb); have n2_ := Aside0.mk (below_step (by repeat (first | (with_reducible first | exact HB.out | apply below_alloc | apply pw_below_drewN | apply below_drew1 | refine below_set ?_ GE444.out | refine below_set ?_ GE445.out) | exact HB.out)) hb); clear BK444; clear BK445; clear HB; have BK444 := n0_; have BK445 := n1_; have HB := n2_; clear n0_ n1_ n2_; (try clear hb); (try clear hb2); (try clear hk); (try clear hi)))
   have n0_ := Aside0.mk (blk_drew BK444.out)
   have n1_ := Aside0.mk (blk_drew BK445.out)
   have n2_ := Aside0.mk (below_drew1 HB.out)
   revert n0_ n1_ n2_
   clear BK444 BK445 HB
   intro BK444 BK445 HB
   refine start_ (n := 11) (S := fun w' => w'.cell? ⟨gb444, 0, none⟩ = some (.slice A0_0 l0_0.length c0_0) ∧ w'.cell? ⟨gb445, 0, none⟩ = some (.slice A1_0 l1_0.length c1_0)) (ds := []) #[false, false, false, false, false, false, false, false, false, false, false] (by kernel_rfl) rfl rfl ⟨(blk_cell BK444.out 0).trans rfl, (blk_cell BK445.out 0).trans rfl⟩ (fun hHeld => ?_); refine with_tabW laws_FnExactWithoutTrie.tab8 laws_FnExactWithoutTrie.bits8 (fun HT_ HW_ => ?_)
   generalize w32.drew = w33 at BK444 BK445 HB hHeld ⊢
   refine take_ (i := 0) (N := some 28) (v := ?_) (a' := ?_) #[true, false, false, false, false, false, false, false, false, false, false] rfl rfl (take_ofW HT_.out HW_.out (by kernel_rfl)) (fun _ _ _ h => h) (Or.inl ⟨by rfl, ?_⟩) hHeld ?_ ?_
   rotate_left
   ·rintro w' ⟨s0, s1⟩
    go_simp
    with_reducible rfl
   rotate_left
   ·simp only [Act.put, List.setIfInBounds_toArray, List.set_cons_zero, List.set_cons_succ, i64_w, i32_w]
    rfl
   refine take_ (i := 2) (N := some 30) (v := ?_) (a' := ?_) #[true, false, true, false, false, false, false, false, false, false, false] rfl rfl (take_ofW HT_.out HW_.out (by kernel_rfl)) (fun _ _ _ h => h) (Or.inl ⟨by rfl, ?_⟩) hHeld ?_ ?_
   rotate_left
   ·rintro w' ⟨s0, s1⟩
    go_simp
    with_reducible rfl
   rotate_left
   ·simp only [Act.put, List.setIfInBounds_toArray, List.set_cons_zero, List.set_cons_succ, i64_w, i32_w]
    rfl
   refine join_ (σ := Value × Value × Value × Nat) 2 #[true, true, true, true, true, true, true, true, true, false, false] (fun s_ => [(29, .agg #[s_.1]), (31, .agg #[s_.2.1]), (32, .tuple #[.agg #[s_.2.2.1], .bool t457]), (6, .pointer (some ⟨s_.2.2.2, 0, none⟩)), (27, .tuple #[.agg #[s_.2.2.1], .bool t457]), (33, .agg #[s_.2.2.1]), (34, .bool t457)]) (fun s_ w' => (w'.cell? ⟨gb444, 0, none⟩ = some (.slice A0_0 l0_0.length c0_0) ∧ w'.cell? ⟨gb445, 0, none⟩ = some (.slice A1_0 l1_0.length c1_0)) ∧ (Kd.R k67 67 w' w.heap.size (fun k_ => some k_ ≠ (s_.2.1 : Value).ownBlock ∧ some k_ ≠ (s_.2.2.1 : Value).ownBlock) s_.1 t448) ∧ (Kd.R k67 67 w' w.heap.size (fun k_ => some k_ ≠ (s_.1 : Value).ownBlock ∧ some k_ ≠ (s_.2.2.1 : Value).ownBlock) s_.2.1 t451) ∧ (Kd.R k67 67 w' w.heap.size (fun k_ => some k_ ≠ (s_.1 : Value).ownBlock ∧ some k_ ≠ (s_.2.1 : Value).ownBlock) s_.2.2.1 t454) ∧ (w'.heap[gb444]? = some (.cells #[.slice A0_0 l0_0.length c0_0] 32 (0, 0))) ∧ (w'.heap[gb445]? = some (.cells #[.slice A1_0 l1_0.length c1_0] 32 (0, 0))) ∧ (w'.heap[s_.2.2.2]? = some (.cells #[.slice none 0 0] 24 (0, 0))) ∧ (w.heap.size ≤ s_.2.2.2) ∧ (w.heap.size ≤ s_.2.2.2) ∧ (gb444 ≠ s_.2.2.2) ∧ (s_.2.2.2 ≠ gb444) ∧ (gb445 ≠ s_.2.2.2) ∧ (s_.2.2.2 ≠ gb445) ∧ (Below w.heap.size w w')) ?_ ?_
   rotate_left
   ·intro hCont
    refine two_ (i := 1) (j := 8) (Ni := some 29) (Nj := some 6) #[true, true, true, false, false, false, false, false, false, false, false] #[true, false, true, false, false, false, false, false, true, false, false] rfl rfl rfl rfl (two_of HT_.out (by kernel_rfl)) (by decide) (by decide) (fun K hK => ?_) (fun K hK => ?_)
    ·skip
     refine goes_ Try.func14 (by kernel_rfl) rfl #[.agg #[.slice A0_0 l0_0.length c0_0]] (by rfl) rfl rfl (by (try simp only [List.map_toArray, List.map_cons, List.map_nil]); first | done | rfl | (simp only [List.length_drop, List.length_take]; rfl)) ?_
     with_reducible refine (laws_toTrie.calls k _ _ l0_0 t448 _ ?side1 ?side2 A19.out).mono ?_
     (case side1 => exact (Kd.C_below HR0_0.out HB.out))
     (case side2 => exact HC0_0.out)
     rintro e w34 ⟨v449, rfl, ho0, hb⟩
     refine ⟨_, rfl, ?_⟩
     have n0_ := Aside0.mk (Kd.R_lower ho0 (below_size HB.out))
     have n1_ := Aside0.mk (blk_below BK444.out hb)
     have n2_ := Aside0.mk (blk_below BK445.out hb)
     have n3_ := Aside0.mk (below_step HB.out hb)
     revert n0_ n1_ n2_ n3_
     clear BK444 BK445 HB
     intro HO450 BK444 BK445 HB
     (try clear hb)
     (try clear hb2)
     (try clear hk)
     (try clear hi)
     (try clear ho0)
     refine hK.out _ _ ⟨(blk_cell BK444.out 0).trans rfl, (blk_cell BK445.out 0).trans rfl⟩ (fun hHeld => ?_)
     clear hK K
     refine norm_ (a' := ?_) ?_ ?_
     rotate_left
     ·show Act.put _ (some 29) _ = _
      simp only [Act.put, List.setIfInBounds_toArray, List.set_cons_zero, List.set_cons_succ, i64_w, i32_w]
      rfl
     refine two_ (i := 3) (j := 8) (Ni := some 31) (Nj := some 6) #[true, true, true, true, false, false, false, false, false, false, false] #[true, true, true, false, false, false, false, false, true, false, false] rfl rfl rfl rfl (two_of HT_.out (by kernel_rfl)) (by decide) (by decide) (fun K hK => ?_) (fun K hK => ?_)
     ·skip
      refine goes_ Try.func14 (by kernel_rfl) rfl #[.agg #[.slice A1_0 l1_0.length c1_0]] (by rfl) rfl rfl (by (try simp only [List.map_toArray, List.map_cons, List.map_nil]); first | done | rfl | (simp only [List.length_drop, List.length_take]; rfl)) ?_
      with_reducible refine (laws_toTrie.calls k _ _ l1_0 t451 _ ?side1 ?side2 A20.out).mono ?_
      (case side1 => exact (Kd.C_below HR1_0.out HB.out))
      (case side2 => exact HC1_0.out)
      rintro e w35 ⟨v452, rfl, ho0, hb⟩
      refine ⟨_, rfl, ?_⟩
      have n0_ := Aside0.mk (Kd.R_elder' HO450.out (Kd.R_base ho0) hb)
      have n1_ := Aside0.mk (Kd.R_lower (Kd.R_new' ho0 (Kd.R_lt HO450.out)) (below_size HB.out))
      have n2_ := Aside0.mk (blk_below BK444.out hb)
      have n3_ := Aside0.mk (blk_below BK445.out hb)
      have n4_ := Aside0.mk (below_step HB.out hb)
      revert n0_ n1_ n2_ n3_ n4_
      clear HO450 BK444 BK445 HB
      intro HO450 HO453 BK444 BK445 HB
      (try clear hb)
      (try clear hb2)
      (try clear hk)
      (try clear hi)
      (try clear ho0)
      obtain ⟨Ao36, co36, eo36⟩ := Kd.R_slice HO450.out
      (first | subst eo36 | (injection eo36 with f1_ f2_ f3_; have f4_ := f1_.symm; have f5_ := f3_.symm; clear f1_ f2_ f3_; subst f4_; subst f5_))
      obtain ⟨Ao37, co37, eo37⟩ := Kd.R_slice HO453.out
      (first | subst eo37 | (injection eo37 with f1_ f2_ f3_; have f4_ := f1_.symm; have f5_ := f3_.symm; clear f1_ f2_ f3_; subst f4_; subst f5_))
      refine hK.out _ _ ⟨(blk_cell BK444.out 0).trans rfl, (blk_cell BK445.out 0).trans rfl⟩ (fun hHeld => ?_)
      clear hK K
      refine norm_ (a' := ?_) ?_ ?_
      rotate_left
      ·show Act.put _ (some 31) _ = _
       simp only [Act.put, List.setIfInBounds_toArray, List.set_cons_zero, List.set_cons_succ, i64_w, i32_w]
       rfl
      refine two_ (i := 4) (j := 8) (Ni := some 32) (Nj := some 6) #[true, true, true, true, true, false, false, false, false, false, false] #[true, true, true, true, false, false, false, false, true, false, false] rfl rfl rfl rfl (two_of HT_.out (by kernel_rfl)) (by decide) (by decide) (fun K hK => ?_) (fun K hK => ?_)
      ·skip
       refine goes_ Try.func16 (by kernel_rfl) rfl #[.agg #[.slice Ao36 t448.length co36], .agg #[.slice Ao37 t451.length co37]] (by rfl) rfl rfl (by (try simp only [List.map_toArray, List.map_cons, List.map_nil]); first | done | rfl | (simp only [List.length_drop, List.length_take]; rfl)) ?_
       with_reducible refine (spec_WithoutTrie.calls k _ _ t448 _ _ t451 t454 t457 _ ?side1 ?side2 ?side3 ?side4 A21.out).mono ?_
       (case side1 => exact (Kd.R_reads' HO450.out).2.2)
       (case side2 => exact (Kd.R_reads' HO450.out).2.1)
       (case side3 => exact (Kd.R_reads' HO453.out).2.2)
       (case side4 => exact (Kd.R_reads' HO453.out).2.1)
       rintro e w38 ⟨v455, rfl, ho0, hb⟩
       refine ⟨_, rfl, ?_⟩
       have n0_ := Aside0.mk (Kd.R_elder' HO450.out (Kd.R_base ho0) hb)
       have n1_ := Aside0.mk (Kd.R_elder' HO453.out (Kd.R_base ho0) hb)
       have n2_ := Aside0.mk (Kd.R_lower (Kd.R_new' (Kd.R_new' ho0 (Kd.R_lt HO450.out)) (Kd.R_lt HO453.out)) (below_size HB.out))
       have n3_ := Aside0.mk (blk_below BK444.out hb)
       have n4_ := Aside0.mk (blk_below BK445.out hb)
       have n5_ := Aside0.mk (below_step HB.out hb)
       revert n0_ n1_ n2_ n3_ n4_ n5_
       clear HO450 HO453 BK444 BK445 HB
       intro HO450 HO453 HO456 BK444 BK445 HB
       (try clear hb)
       (try clear hb2)
       (try clear hk)
       (try clear hi)
       (try clear ho0)
       refine hK.out _ _ ⟨(blk_cell BK444.out 0).trans rfl, (blk_cell BK445.out 0).trans rfl⟩ (fun hHeld => ?_)
       clear hK K
       refine norm_ (a' := ?_) ?_ ?_
       rotate_left
       ·show Act.put _ (some 32) _ = _
        simp only [Act.put, List.setIfInBounds_toArray, List.set_cons_zero, List.set_cons_succ, i64_w, i32_w]
        rfl
       refine pure_ (i := 5) (N := some 27) (v := ?_) (a' := ?_) #[true, true, true, true, true, true, false, false, false, false, false] rfl rfl (any_of HT_.out (by kernel_rfl)) (fun _ _ _ h => h) (Or.inl ⟨by rfl, ?_⟩) ?_ ?_
       rotate_left
       ·intro w'
        go_simp
        with_reducible rfl
       rotate_left
       ·simp only [Act.put, List.setIfInBounds_toArray, List.set_cons_zero, List.set_cons_succ, i64_w, i32_w]
        rfl
       refine pure_ (i := 6) (N := some 33) (v := ?_) (a' := ?_) #[true, true, true, true, true, true, true, false, false, false, false] rfl rfl (any_of HT_.out (by kernel_rfl)) (fun _ _ _ h => h) (Or.inl ⟨by rfl, ?_⟩) ?_ ?_
       rotate_left
       ·intro w'
        go_simp
        with_reducible rfl
       rotate_left
       ·simp only [Act.put, List.setIfInBounds_toArray, List.set_cons_zero, List.set_cons_succ, i64_w, i32_w]
        rfl
       refine pure_ (i := 7) (N := some 34) (v := ?_) (a' := ?_) #[true, true, true, true, true, true, true, true, false, false, false] rfl rfl (any_of HT_.out (by kernel_rfl)) (fun _ _ _ h => h) (Or.inl ⟨by rfl, ?_⟩) ?_ ?_
       rotate_left
       ·intro w'
        go_simp
        with_reducible rfl
       rotate_left
       ·simp only [Act.put, List.setIfInBounds_toArray, List.set_cons_zero, List.set_cons_succ, i64_w, i32_w]
        rfl
       refine one_ (i := 8) (N := some 6) #[true, true, true, true, true, true, true, true, true, false, false] rfl rfl (one_of HT_.out (by kernel_rfl)) (by decide) (fun K hK => ?_)
       refine box_step ?hg (N := 6) ?hd (cs := #[.slice none 0 0]) (t := 24) ?hr ?_; (case hd => rfl); (case hg => rfl); (case hr => first | (go_simp; done) | (go_simp; rfl))
       intro gb458 hg w39 hbox hb
       have n0_ := Aside0.mk (Kd.R_below HO450.out hb)
       have n1_ := Aside0.mk (Kd.R_below HO453.out hb)
       have n2_ := Aside0.mk (Kd.R_below HO456.out hb)
       have n3_ := Aside0.mk (blk_below BK444.out hb)
       have n4_ := Aside0.mk (blk_below BK445.out hb)
       have n5_ := Aside0.mk (below_step HB.out hb)
       have n6_ := Aside0.mk (hbox)
       have n7_ := Aside0.mk ((by rw [hg]; exact (below_size HB.out) : w.heap.size ≤ gb458))
       have n8_ := Aside0.mk ((by rw [hg]; exact (below_size HB.out) : w.heap.size ≤ gb458))
       have n9_ := Aside0.mk ((by rw [hg]; exact Nat.ne_of_lt (blk_lt BK444.out) : gb444 ≠ gb458))
       have n10_ := Aside0.mk ((by rw [hg]; exact Nat.ne_of_gt (blk_lt BK444.out) : gb458 ≠ gb444))
       have n11_ := Aside0.mk ((by rw [hg]; exact Nat.ne_of_lt (blk_lt BK445.out) : gb445 ≠ gb458))
       have n12_ := Aside0.mk ((by rw [hg]; exact Nat.ne_of_gt (blk_lt BK445.out) : gb458 ≠ gb445))
       revert n0_ n1_ n2_ n3_ n4_ n5_ n6_ n7_ n8_ n9_ n10_ n11_ n12_
       clear HO450 HO453 HO456 BK444 BK445 HB
       intro HO450 HO453 HO456 BK444 BK445 HB BK458 GW458 GE458 NB444_458 NB458_444 NB445_458 NB458_445
       clear hb hbox hg
       refine hK.out _ _ ⟨(blk_cell BK444.out 0).trans rfl, (blk_cell BK445.out 0).trans rfl⟩ (fun hHeld => ?_)
       clear hK K
       refine norm_ (a' := ?_) ?_ ?_
       rotate_left
       ·show Act.put _ (some 6) _ = _
        simp only [Act.put, List.setIfInBounds_toArray, List.set_cons_zero, List.set_cons_succ, i64_w, i32_w]
        rfl
       exact norm_ (by simp only [putAll, Act.put, List.setIfInBounds_toArray, List.set_cons_zero, List.set_cons_succ]) (hCont (.slice Ao36 t448.length co36, .slice Ao37 t451.length co37, v455, gb458) _ ⟨hHeld, (Kd.R_mono HO450.out (fun _ hk => ⟨hk.1.2, hk.2⟩)), (Kd.R_mono HO453.out (fun _ hk => ⟨hk.1.2, hk.2⟩)), (Kd.R_mono HO456.out (fun _ hk => ⟨hk.1.2, hk.2⟩)), BK444.out, BK445.out, BK458.out, GW458.out, GE458.out, NB444_458.out, NB458_444.out, NB445_458.out, NB458_445.out, HB.out⟩)
      ·skip
       refine box_step ?hg (N := 6) ?hd (cs := #[.slice none 0 0]) (t := 24) ?hr ?_; (case hd => rfl); (case hg => rfl); (case hr => first | (go_simp; done) | (go_simp; rfl))
       intro gb458 hg w36 hbox hb
       have n0_ := Aside0.mk (Kd.R_below HO450.out hb)
       have n1_ := Aside0.mk (Kd.R_below HO453.out hb)
       have n2_ := Aside0.mk (blk_below BK444.out hb)
       have n3_ := Aside0.mk (blk_below BK445.out hb)
       have n4_ := Aside0.mk (below_step HB.out hb)
       have n5_ := Aside0.mk (hbox)
       have n6_ := Aside0.mk ((by rw [hg]; exact (below_size HB.out) : w.heap.size ≤ gb458))
       have n7_ := Aside0.mk ((by rw [hg]; exact (below_size HB.out) : w.heap.size ≤ gb458))
       have n8_ := Aside0.mk ((by rw [hg]; exact Nat.ne_of_lt (blk_lt BK444.out) : gb444 ≠ gb458))
       have n9_ := Aside0.mk ((by rw [hg]; exact Nat.ne_of_gt (blk_lt BK444.out) : gb458 ≠ gb444))
       have n10_ := Aside0.mk ((by rw [hg]; exact Nat.ne_of_lt (blk_lt BK445.out) : gb445 ≠ gb458))
       have n11_ := Aside0.mk ((by rw [hg]; exact Nat.ne_of_gt (blk_lt BK445.out) : gb458 ≠ gb445))
       revert n0_ n1_ n2_ n3_ n4_ n5_ n6_ n7_ n8_ n9_ n10_ n11_
       clear HO450 HO453 BK444 BK445 HB
       intro HO450 HO453 BK444 BK445 HB BK458 GW458 GE458 NB444_458 NB458_444 NB445_458 NB458_445
       clear hb hbox hg
       obtain ⟨Ao37, co37, eo37⟩ := Kd.R_slice HO450.out
       (first | subst eo37 | (injection eo37 with f1_ f2_ f3_; have f4_ := f1_.symm; have f5_ := f3_.symm; clear f1_ f2_ f3_; subst f4_; subst f5_))
       obtain ⟨Ao38, co38, eo38⟩ := Kd.R_slice HO453.out
       (first | subst eo38 | (injection eo38 with f1_ f2_ f3_; have f4_ := f1_.symm; have f5_ := f3_.symm; clear f1_ f2_ f3_; subst f4_; subst f5_))
       refine hK.out _ _ ⟨(blk_cell BK444.out 0).trans rfl, (blk_cell BK445.out 0).trans rfl⟩ (fun hHeld => ?_)
       clear hK K
       refine norm_ (a' := ?_) ?_ ?_
       rotate_left
       ·show Act.put _ (some 6) _ = _
        simp only [Act.put, List.setIfInBounds_toArray, List.set_cons_zero, List.set_cons_succ, i64_w, i32_w]
        rfl
       refine one_ (i := 4) (N := some 32) #[true, true, true, true, true, false, false, false, true, false, false] rfl rfl (one_of HT_.out (by kernel_rfl)) (by decide) (fun K hK => ?_)
       refine goes_ Try.func16 (by kernel_rfl) rfl #[.agg #[.slice Ao37 t448.length co37], .agg #[.slice Ao38 t451.length co38]] (by rfl) rfl rfl (by (try simp only [List.map_toArray, List.map_cons, List.map_nil]); first | done | rfl | (simp only [List.length_drop, List.length_take]; rfl)) ?_
       with_reducible refine (spec_WithoutTrie.calls k _ _ t448 _ _ t451 t454 t457 _ ?side1 ?side2 ?side3 ?side4 A21.out).mono ?_
       (case side1 => exact (Kd.R_reads' HO450.out).2.2)
       (case side2 => exact (Kd.R_reads' HO450.out).2.1)
       (case side3 => exact (Kd.R_reads' HO453.out).2.2)
       (case side4 => exact (Kd.R_reads' HO453.out).2.1)
       rintro e w39 ⟨v455, rfl, ho0, hb⟩
       refine ⟨_, rfl, ?_⟩
       have n0_ := Aside0.mk (Kd.R_elder' HO450.out (Kd.R_base ho0) hb)
       have n1_ := Aside0.mk (Kd.R_elder' HO453.out (Kd.R_base ho0) hb)
       have n2_ := Aside0.mk (Kd.R_lower (Kd.R_new' (Kd.R_new' ho0 (Kd.R_lt HO450.out)) (Kd.R_lt HO453.out)) (below_size HB.out))
       have n3_ := Aside0.mk (blk_below BK444.out hb)
       have n4_ := Aside0.mk (blk_below BK445.out hb)
       have n5_ := Aside0.mk (blk_below BK458.out hb)
       have n6_ := Aside0.mk (below_step HB.out hb)
       revert n0_ n1_ n2_ n3_ n4_ n5_ n6_
       clear HO450 HO453 BK444 BK445 BK458 HB
       intro HO450 HO453 HO456 BK444 BK445 BK458 HB
       (try clear hb)
       (try clear hb2)
       (try clear hk)
       (try clear hi)
       (try clear ho0)
       refine hK.out _ _ ⟨(blk_cell BK444.out 0).trans rfl, (blk_cell BK445.out 0).trans rfl⟩ (fun hHeld => ?_)
       clear hK K
       refine norm_ (a' := ?_) ?_ ?_
       rotate_left
       ·show Act.put _ (some 32) _ = _
        simp only [Act.put, List.setIfInBounds_toArray, List.set_cons_zero, List.set_cons_succ, i64_w, i32_w]
        rfl
       refine pure_ (i := 5) (N := some 27) (v := ?_) (a' := ?_) #[true, true, true, true, true, true, false, false, true, false, false] rfl rfl (any_of HT_.out (by kernel_rfl)) (fun _ _ _ h => h) (Or.inl ⟨by rfl, ?_⟩) ?_ ?_
       rotate_left
       ·intro w'
        go_simp
        with_reducible rfl
       rotate_left
       ·simp only [Act.put, List.setIfInBounds_toArray, List.set_cons_zero, List.set_cons_succ, i64_w, i32_w]
        rfl
       refine pure_ (i := 6) (N := some 33) (v := ?_) (a' := ?_) #[true, true, true, true, true, true, true, false, true, false, false] rfl rfl (any_of HT_.out (by kernel_rfl)) (fun _ _ _ h => h) (Or.inl ⟨by rfl, ?_⟩) ?_ ?_
       rotate_left
       ·intro w'
        go_simp
        with_reducible rfl
       rotate_left
       ·simp only [Act.put, List.setIfInBounds_toArray, List.set_cons_zero, List.set_cons_succ, i64_w, i32_w]
        rfl
       refine pure_ (i := 7) (N := some 34) (v := ?_) (a' := ?_) #[true, true, true, true, true, true, true, true, true, false, false] rfl rfl (any_of HT_.out (by kernel_rfl)) (fun _ _ _ h => h) (Or.inl ⟨by rfl, ?_⟩) ?_ ?_
       rotate_left
       ·intro w'
        go_simp
        with_reducible rfl
       rotate_left
       ·simp only [Act.put, List.setIfInBounds_toArray, List.set_cons_zero, List.set_cons_succ, i64_w, i32_w]
        rfl
       exact norm_ (by simp only [putAll, Act.put, List.setIfInBounds_toArray, List.set_cons_zero, List.set_cons_succ]) (hCont (.slice Ao37 t448.length co37, .slice Ao38 t451.length co38, v455, gb458) _ ⟨hHeld, (Kd.R_mono HO450.out (fun _ hk => ⟨hk.1.2, hk.2⟩)), (Kd.R_mono HO453.out (fun _ hk => ⟨hk.1.2, hk.2⟩)), (Kd.R_mono HO456.out (fun _ hk => ⟨hk.1.2, hk.2⟩)), BK444.out, BK445.out, BK458.out, GW458.out, GE458.out, NB444_458.out, NB458_444.out, NB445_458.out, NB458_445.out, HB.out⟩)
     ·skip
      refine box_step ?hg (N := 6) ?hd (cs := #[.slice none 0 0]) (t := 24) ?hr ?_; (case hd => rfl); (case hg => rfl); (case hr => first | (go_simp; done) | (go_simp; rfl))
      intro gb458 hg w35 hbox hb
      have n0_ := Aside0.mk (Kd.R_below HO450.out hb)
      have n1_ := Aside0.mk (blk_below BK444.out hb)
      have n2_ := Aside0.mk (blk_below BK445.out hb)
      have n3_ := Aside0.mk (below_step HB.out hb)
      have n4_ := Aside0.mk (hbox)
      have n5_ := Aside0.mk ((by rw [hg]; exact (below_size HB.out) : w.heap.size ≤ gb458))
      have n6_ := Aside0.mk ((by rw [hg]; exact (below_size HB.out) : w.heap.size ≤ gb458))
      have n7_ := Aside0.mk ((by rw [hg]; exact Nat.ne_of_lt (blk_lt BK444.out) : gb444 ≠ gb458))
      have n8_ := Aside0.mk ((by rw [hg]; exact Nat.ne_of_gt (blk_lt BK444.out) : gb458 ≠ gb444))
      have n9_ := Aside0.mk ((by rw [hg]; exact Nat.ne_of_lt (blk_lt BK445.out) : gb445 ≠ gb458))
      have n10_ := Aside0.mk ((by rw [hg]; exact Nat.ne_of_gt (blk_lt BK445.out) : gb458 ≠ gb445))
      revert n0_ n1_ n2_ n3_ n4_ n5_ n6_ n7_ n8_ n9_ n10_
      clear HO450 BK444 BK445 HB
      intro HO450 BK444 BK445 HB BK458 GW458 GE458 NB444_458 NB458_444 NB445_458 NB458_445
      clear hb hbox hg
      refine hK.out _ _ ⟨(blk_cell BK444.out 0).trans rfl, (blk_cell BK445.out 0).trans rfl⟩ (fun hHeld => ?_)
      clear hK K
      refine norm_ (a' := ?_) ?_ ?_
      rotate_left
      ·show Act.put _ (some 6) _ = _
       simp only [Act.put, List.setIfInBounds_toArray, List.set_cons_zero, List.set_cons_succ, i64_w, i32_w]
       rfl
      refine one_ (i := 3) (N := some 31) #[true, true, true, true, false, false, false, false, true, false, false] rfl rfl (one_of HT_.out (by kernel_rfl)) (by decide) (fun K hK => ?_)
      refine goes_ Try.func14 (by kernel_rfl) rfl #[.agg #[.slice A1_0 l1_0.length c1_0]] (by rfl) rfl rfl (by (try simp only [List.map_toArray, List.map_cons, List.map_nil]); first | done | rfl | (simp only [List.length_drop, List.length_take]; rfl)) ?_
      with_reducible refine (laws_toTrie.calls k _ _ l1_0 t451 _ ?side1 ?side2 A20.out).mono ?_
      (case side1 => exact (Kd.C_below HR1_0.out HB.out))
      (case side2 => exact HC1_0.out)
      rintro e w36 ⟨v452, rfl, ho0, hb⟩
      refine ⟨_, rfl, ?_⟩
      have n0_ := Aside0.mk (Kd.R_elder' HO450.out (Kd.R_base ho0) hb)
      have n1_ := Aside0.mk (Kd.R_lower (Kd.R_new' ho0 (Kd.R_lt HO450.out)) (below_size HB.out))
      have n2_ := Aside0.mk (blk_below BK444.out hb)
      have n3_ := Aside0.mk (blk_below BK445.out hb)
      have n4_ := Aside0.mk (blk_below BK458.out hb)
      have n5_ := Aside0.mk (below_step HB.out hb)
      revert n0_ n1_ n2_ n3_ n4_ n5_
      clear HO450 BK444 BK445 BK458 HB
      intro HO450 HO453 BK444 BK445 BK458 HB
      (try clear hb)
      (try clear hb2)
      (try clear hk)
      (try clear hi)
      (try clear ho0)
      obtain ⟨Ao37, co37, eo37⟩ := Kd.R_slice HO450.out
      (first | subst eo37 | (injection eo37 with f1_ f2_ f3_; have f4_ := f1_.symm; have f5_ := f3_.symm; clear f1_ f2_ f3_; subst f4_; subst f5_))
      obtain ⟨Ao38, co38, eo38⟩ := Kd.R_slice HO453.out
      (first | subst eo38 | (injection eo38 with f1_ f2_ f3_; have f4_ := f1_.symm; have f5_ := f3_.symm; clear f1_ f2_ f3_; subst f4_; subst f5_))
      refine hK.out _ _ ⟨(blk_cell BK444.out 0).trans rfl, (blk_cell BK445.out 0).trans rfl⟩ (fun hHeld => ?_)
      clear hK K
      refine norm_ (a' := ?_) ?_ ?_
      rotate_left
      ·show Act.put _ (some 31) _ = _
       simp only [Act.put, List.setIfInBounds_toArray, List.set_cons_zero, List.set_cons_succ, i64_w, i32_w]
       rfl
      refine one_ (i := 4) (N := some 32) #[true, true, true, true, true, false, false, false, true, false, false] rfl rfl (one_of HT_.out (by kernel_rfl)) (by decide) (fun K hK => ?_)
      refine goes_ Try.func16 (by kernel_rfl) rfl #[.agg #[.slice Ao37 t448.length co37], .agg #[.slice Ao38 t451.length co38]] (by rfl) rfl rfl (by (try simp only [List.map_toArray, List.map_cons, List.map_nil]); first | done | rfl | (simp only [List.length_drop, List.length_take]; rfl)) ?_
      with_reducible refine (spec_WithoutTrie.calls k _ _ t448 _ _ t451 t454 t457 _ ?side1 ?side2 ?side3 ?side4 A21.out).mono ?_
      (case side1 => exact (Kd.R_reads' HO450.out).2.2)
      (case side2 => exact (Kd.R_reads' HO450.out).2.1)
      (case side3 => exact (Kd.R_reads' HO453.out).2.2)
      (case side4 => exact (Kd.R_reads' HO453.out).2.1)
      rintro e w39 ⟨v455, rfl, ho0, hb⟩
      refine ⟨_, rfl, ?_⟩
      have n0_ := Aside0.mk (Kd.R_elder' HO450.out (Kd.R_base ho0) hb)
      have n1_ := Aside0.mk (Kd.R_elder' HO453.out (Kd.R_base ho0) hb)
      have n2_ := Aside0.mk (Kd.R_lower (Kd.R_new' (Kd.R_new' ho0 (Kd.R_lt HO450.out)) (Kd.R_lt HO453.out)) (below_size HB.out))
      have n3_ := Aside0.mk (blk_below BK444.out hb)
      have n4_ := Aside0.mk (blk_below BK445.out hb)
      have n5_ := Aside0.mk (blk_below BK458.out hb)
      have n6_ := Aside0.mk (below_step HB.out hb)
      revert n0_ n1_ n2_ n3_ n4_ n5_ n6_
      clear HO450 HO453 BK444 BK445 BK458 HB
      intro HO450 HO453 HO456 BK444 BK445 BK458 HB
      (try clear hb)
      (try clear hb2)
      (try clear hk)
      (try clear hi)
      (try clear ho0)
      refine hK.out _ _ ⟨(blk_cell BK444.out 0).trans rfl, (blk_cell BK445.out 0).trans rfl⟩ (fun hHeld => ?_)
      clear hK K
      refine norm_ (a' := ?_) ?_ ?_
      rotate_left
      ·show Act.put _ (some 32) _ = _
       simp only [Act.put, List.setIfInBounds_toArray, List.set_cons_zero, List.set_cons_succ, i64_w, i32_w]
       rfl
      refine pure_ (i := 5) (N := some 27) (v := ?_) (a' := ?_) #[true, true, true, true, true, true, false, false, true, false, false] rfl rfl (any_of HT_.out (by kernel_rfl)) (fun _ _ _ h => h) (Or.inl ⟨by rfl, ?_⟩) ?_ ?_
      rotate_left
      ·intro w'
       go_simp
       with_reducible rfl
      rotate_left
      ·simp only [Act.put, List.setIfInBounds_toArray, List.set_cons_zero, List.set_cons_succ, i64_w, i32_w]
       rfl
      refine pure_ (i := 6) (N := some 33) (v := ?_) (a' := ?_) #[true, true, true, true, true, true, true, false, true, false, false] rfl rfl (any_of HT_.out (by kernel_rfl)) (fun _ _ _ h => h) (Or.inl ⟨by rfl, ?_⟩) ?_ ?_
      rotate_left
      ·intro w'
       go_simp
       with_reducible rfl
      rotate_left
      ·simp only [Act.put, List.setIfInBounds_toArray, List.set_cons_zero, List.set_cons_succ, i64_w, i32_w]
       rfl
      refine pure_ (i := 7) (N := some 34) (v := ?_) (a' := ?_) #[true, true, true, true, true, true, true, true, true, false, false] rfl rfl (any_of HT_.out (by kernel_rfl)) (fun _ _ _ h => h) (Or.inl ⟨by rfl, ?_⟩) ?_ ?_
      rotate_left
      ·intro w'
       go_simp
       with_reducible rfl
      rotate_left
      ·simp only [Act.put, List.setIfInBounds_toArray, List.set_cons_zero, List.set_cons_succ, i64_w, i32_w]
       rfl
      exact norm_ (by simp only [putAll, Act.put, List.setIfInBounds_toArray, List.set_cons_zero, List.set_cons_succ]) (hCont (.slice Ao37 t448.length co37, .slice Ao38 t451.length co38, v455, gb458) _ ⟨hHeld, (Kd.R_mono HO450.out (fun _ hk => ⟨hk.1.2, hk.2⟩)), (Kd.R_mono HO453.out (fun _ hk => ⟨hk.1.2, hk.2⟩)), (Kd.R_mono HO456.out (fun _ hk => ⟨hk.1.2, hk.2⟩)), BK444.out, BK445.out, BK458.out, GW458.out, GE458.out, NB444_458.out, NB458_444.out, NB445_458.out, NB458_445.out, HB.out⟩)
    ·skip
     refine box_step ?hg (N := 6) ?hd (cs := #[.slice none 0 0]) (t := 24) ?hr ?_; (case hd => rfl); (case hg => rfl); (case hr => first | (go_simp; done) | (go_simp; rfl))
     intro gb458 hg w34 hbox hb
     have n0_ := Aside0.mk (blk_below BK444.out hb)
     have n1_ := Aside0.mk (blk_below BK445.out hb)
     have n2_ := Aside0.mk (below_step HB.out hb)
     have n3_ := Aside0.mk (hbox)
     have n4_ := Aside0.mk ((by rw [hg]; exact (below_size HB.out) : w.heap.size ≤ gb458))
     have n5_ := Aside0.mk ((by rw [hg]; exact (below_size HB.out) : w.heap.size ≤ gb458))
     have n6_ := Aside0.mk ((by rw [hg]; exact Nat.ne_of_lt (blk_lt BK444.out) : gb444 ≠ gb458))
     have n7_ := Aside0.mk ((by rw [hg]; exact Nat.ne_of_gt (blk_lt BK444.out) : gb458 ≠ gb444))
     have n8_ := Aside0.mk ((by rw [hg]; exact Nat.ne_of_lt (blk_lt BK445.out) : gb445 ≠ gb458))
     have n9_ := Aside0.mk ((by rw [hg]; exact Nat.ne_of_gt (blk_lt BK445.out) : gb458 ≠ gb445))
     revert n0_ n1_ n2_ n3_ n4_ n5_ n6_ n7_ n8_ n9_
     clear BK444 BK445 HB
     intro BK444 BK445 HB BK458 GW458 GE458 NB444_458 NB458_444 NB445_458 NB458_445
     clear hb hbox hg
     refine hK.out _ _ ⟨(blk_cell BK444.out 0).trans rfl, (blk_cell BK445.out 0).trans rfl⟩ (fun hHeld => ?_)
     clear hK K
     refine norm_ (a' := ?_) ?_ ?_
     rotate_left
     ·show Act.put _ (some 6) _ = _
      simp only [Act.put, List.setIfInBounds_toArray, List.set_cons_zero, List.set_cons_succ, i64_w, i32_w]
      rfl
     refine one_ (i := 1) (N := some 29) #[true, true, true, false, false, false, false, false, true, false, false] rfl rfl (one_of HT_.out (by kernel_rfl)) (by decide) (fun K hK => ?_)
     refine goes_ Try.func14 (by kernel_rfl) rfl #[.agg #[.slice A0_0 l0_0.length c0_0]] (by rfl) rfl rfl (by (try simp only [List.map_toArray, List.map_cons, List.map_nil]); first | done | rfl | (simp only [List.length_drop, List.length_take]; rfl)) ?_
     with_reducible refine (laws_toTrie.calls k _ _ l0_0 t448 _ ?side1 ?side2 A19.out).mono ?_
     (case side1 => exact (Kd.C_below HR0_0.out HB.out))
     (case side2 => exact HC0_0.out)
     rintro e w35 ⟨v449, rfl, ho0, hb⟩
     refine ⟨_, rfl, ?_⟩
     have n0_ := Aside0.mk (Kd.R_lower ho0 (below_size HB.out))
     have n1_ := Aside0.mk (blk_below BK444.out hb)
     have n2_ := Aside0.mk (blk_below BK445.out hb)
     have n3_ := Aside0.mk (blk_below BK458.out hb)
     have n4_ := Aside0.mk (below_step HB.out hb)
     revert n0_ n1_ n2_ n3_ n4_
     clear BK444 BK445 BK458 HB
     intro HO450 BK444 BK445 BK458 HB
     (try clear hb)
     (try clear hb2)
     (try clear hk)
     (try clear hi)
     (try clear ho0)
     refine hK.out _ _ ⟨(blk_cell BK444.out 0).trans rfl, (blk_cell BK445.out 0).trans rfl⟩ (fun hHeld => ?_)
     clear hK K
     refine norm_ (a' := ?_) ?_ ?_
     rotate_left
     ·show Act.put _ (some 29) _ = _
      simp only [Act.put, List.setIfInBounds_toArray, List.set_cons_zero, List.set_cons_succ, i64_w, i32_w]
      rfl
     refine one_ (i := 3) (N := some 31) #[true, true, true, true, false, false, false, false, true, false, false] rfl rfl (one_of HT_.out (by kernel_rfl)) (by decide) (fun K hK => ?_)
     refine goes_ Try.func14 (by kernel_rfl) rfl #[.agg #[.slice A1_0 l1_0.length c1_0]] (by rfl) rfl rfl (by (try simp only [List.map_toArray, List.map_cons, List.map_nil]); first | done | rfl | (simp only [List.length_drop, List.length_take]; rfl)) ?_
     with_reducible refine (laws_toTrie.calls k _ _ l1_0 t451 _ ?side1 ?side2 A20.out).mono ?_
     (case side1 => exact (Kd.C_below HR1_0.out HB.out))
     (case side2 => exact HC1_0.out)
     rintro e w36 ⟨v452, rfl, ho0, hb⟩
     refine ⟨_, rfl, ?_⟩
     have n0_ := Aside0.mk (Kd.R_elder' HO450.out (Kd.R_base ho0) hb)
     have n1_ := Aside0.mk (Kd.R_lower (Kd.R_new' ho0 (Kd.R_lt HO450.out)) (below_size HB.out))
     have n2_ := Aside0.mk (blk_below BK444.out hb)
     have n3_ := Aside0.mk (blk_below BK445.out hb)
     have n4_ := Aside0.mk (blk_below BK458.out hb)
     have n5_ := Aside0.mk (below_step HB.out hb)
     revert n0_ n1_ n2_ n3_ n4_ n5_
     clear HO450 BK444 BK445 BK458 HB
     intro HO450 HO453 BK444 BK445 BK458 HB
     (try clear hb)
     (try clear hb2)
     (try clear hk)
     (try clear hi)
     (try clear ho0)
     obtain ⟨Ao37, co37, eo37⟩ := Kd.R_slice HO450.out
     (first | subst eo37 | (injection eo37 with f1_ f2_ f3_; have f4_ := f1_.symm; have f5_ := f3_.symm; clear f1_ f2_ f3_; subst f4_; subst f5_))
     obtain ⟨Ao38, co38, eo38⟩ := Kd.R_slice HO453.out
     (first | subst eo38 | (injection eo38 with f1_ f2_ f3_; have f4_ := f1_.symm; have f5_ := f3_.symm; clear f1_ f2_ f3_; subst f4_; subst f5_))
     refine hK.out _ _ ⟨(blk_cell BK444.out 0).trans rfl, (blk_cell BK445.out 0).trans rfl⟩ (fun hHeld => ?_)
     clear hK K
     refine norm_ (a' := ?_) ?_ ?_
     rotate_left
     ·show Act.put _ (some 31) _ = _
      simp only [Act.put, List.setIfInBounds_toArray, List.set_cons_zero, List.set_cons_succ, i64_w, i32_w]
      rfl
     refine one_ (i := 4) (N := some 32) #[true, true, true, true, true, false, false, false, true, false, false] rfl rfl (one_of HT_.out (by kernel_rfl)) (by decide) (fun K hK => ?_)
     refine goes_ Try.func16 (by kernel_rfl) rfl #[.agg #[.slice Ao37 t448.length co37], .agg #[.slice Ao38 t451.length co38]] (by rfl) rfl rfl (by (try simp only [List.map_toArray, List.map_cons, List.map_nil]); first | done | rfl | (simp only [List.length_drop, List.length_take]; rfl)) ?_
     with_reducible refine (spec_WithoutTrie.calls k _ _ t448 _ _ t451 t454 t457 _ ?side1 ?side2 ?side3 ?side4 A21.out).mono ?_
     (case side1 => exact (Kd.R_reads' HO450.out).2.2)
     (case side2 => exact (Kd.R_reads' HO450.out).2.1)
     (case side3 => exact (Kd.R_reads' HO453.out).2.2)
     (case side4 => exact (Kd.R_reads' HO453.out).2.1)
     rintro e w39 ⟨v455, rfl, ho0, hb⟩
     refine ⟨_, rfl, ?_⟩
     have n0_ := Aside0.mk (Kd.R_elder' HO450.out (Kd.R_base ho0) hb)
     have n1_ := Aside0.mk (Kd.R_elder' HO453.out (Kd.R_base ho0) hb)
     have n2_ := Aside0.mk (Kd.R_lower (Kd.R_new' (Kd.R_new' ho0 (Kd.R_lt HO450.out)) (Kd.R_lt HO453.out)) (below_size HB.out))
     have n3_ := Aside0.mk (blk_below BK444.out hb)
     have n4_ := Aside0.mk (blk_below BK445.out hb)
     have n5_ := Aside0.mk (blk_below BK458.out hb)
     have n6_ := Aside0.mk (below_step HB.out hb)
     revert n0_ n1_ n2_ n3_ n4_ n5_ n6_
     clear HO450 HO453 BK444 BK445 BK458 HB
     intro HO450 HO453 HO456 BK444 BK445 BK458 HB
     (try clear hb)
     (try clear hb2)
     (try clear hk)
     (try clear hi)
     (try clear ho0)
     refine hK.out _ _ ⟨(blk_cell BK444.out 0).trans rfl, (blk_cell BK445.out 0).trans rfl⟩ (fun hHeld => ?_)
     clear hK K
     refine norm_ (a' := ?_) ?_ ?_
     rotate_left
     ·show Act.put _ (some 32) _ = _
      simp only [Act.put, List.setIfInBounds_toArray, List.set_cons_zero, List.set_cons_succ, i64_w, i32_w]
      rfl
     refine pure_ (i := 5) (N := some 27) (v := ?_) (a' := ?_) #[true, true, true, true, true, true, false, false, true, false, false] rfl rfl (any_of HT_.out (by kernel_rfl)) (fun _ _ _ h => h) (Or.inl ⟨by rfl, ?_⟩) ?_ ?_
     rotate_left
     ·intro w'
      go_simp
      with_reducible rfl
     rotate_left
     ·simp only [Act.put, List.setIfInBounds_toArray, List.set_cons_zero, List.set_cons_succ, i64_w, i32_w]
      rfl
     refine pure_ (i := 6) (N := some 33) (v := ?_) (a' := ?_) #[true, true, true, true, true, true, true, false, true, false, false] rfl rfl (any_of HT_.out (by kernel_rfl)) (fun _ _ _ h => h) (Or.inl ⟨by rfl, ?_⟩) ?_ ?_
     rotate_left
     ·intro w'
      go_simp
      with_reducible rfl
     rotate_left
     ·simp only [Act.put, List.setIfInBounds_toArray, List.set_cons_zero, List.set_cons_succ, i64_w, i32_w]
      rfl
     refine pure_ (i := 7) (N := some 34) (v := ?_) (a' := ?_) #[true, true, true, true, true, true, true, true, true, false, false] rfl rfl (any_of HT_.out (by kernel_rfl)) (fun _ _ _ h => h) (Or.inl ⟨by rfl, ?_⟩) ?_ ?_
     rotate_left
     ·intro w'
      go_simp
      with_reducible rfl
     rotate_left
     ·simp only [Act.put, List.setIfInBounds_toArray, List.set_cons_zero, List.set_cons_succ, i64_w, i32_w]
      rfl
     exact norm_ (by simp only [putAll, Act.put, List.setIfInBounds_toArray, List.set_cons_zero, List.set_cons_succ]) (hCont (.slice Ao37 t448.length co37, .slice Ao38 t451.length co38, v455, gb458) _ ⟨hHeld, (Kd.R_mono HO450.out (fun _ hk => ⟨hk.1.2, hk.2⟩)), (Kd.R_mono HO453.out (fun _ hk => ⟨hk.1.2, hk.2⟩)), (Kd.R_mono HO456.out (fun _ hk => ⟨hk.1.2, hk.2⟩)), BK444.out, BK445.out, BK458.out, GW458.out, GE458.out, NB444_458.out, NB458_444.out, NB445_458.out, NB458_445.out, HB.out⟩)
   rintro ⟨v449, v452, v455, gb458⟩ w40 ⟨hS_, h0_, h1_, h2_, h3_, h4_, h5_, h6_, h7_, h8_, h9_, h10_, h11_, h12_⟩
   have n0_ : Aside0 (Kd.R k67 67 w40 w.heap.size (fun k_ => some k_ ≠ (v452 : Value).ownBlock ∧ some k_ ≠ (v455 : Value).ownBlock) v449 t448) := ⟨h0_⟩
   have n1_ : Aside0 (Kd.R k67 67 w40 w.heap.size (fun k_ => some k_ ≠ (v449 : Value).ownBlock ∧ some k_ ≠ (v455 : Value).ownBlock) v452 t451) := ⟨h1_⟩
   have n2_ : Aside0 (Kd.R k67 67 w40 w.heap.size (fun k_ => some k_ ≠ (v449 : Value).ownBlock ∧ some k_ ≠ (v452 : Value).ownBlock) v455 t454) := ⟨h2_⟩
   have n3_ : Aside0 (w40.heap[gb444]? = some (.cells #[.slice A0_0 l0_0.length c0_0] 32 (0, 0))) := ⟨h3_⟩
   have n4_ : Aside0 (w40.heap[gb445]? = some (.cells #[.slice A1_0 l1_0.length c1_0] 32 (0, 0))) := ⟨h4_⟩
   have n5_ : Aside0 (w40.heap[gb458]? = some (.cells #[.slice none 0 0] 24 (0, 0))) := ⟨h5_⟩
   have n6_ : Aside0 (w.heap.size ≤ gb458) := ⟨h6_⟩
   have n7_ : Aside0 (w.heap.size ≤ gb458) := ⟨h7_⟩
   have n8_ : Aside0 (gb444 ≠ gb458) := ⟨h8_⟩
   have n9_ : Aside0 (gb458 ≠ gb444) := ⟨h9_⟩
   have n10_ : Aside0 (gb445 ≠ gb458) := ⟨h10_⟩
   have n11_ : Aside0 (gb458 ≠ gb445) := ⟨h11_⟩
   have n12_ : Aside0 (Below w.heap.size w w40) := ⟨h12_⟩
   clear BK444
   clear BK445
   clear HB
   clear h0_ h1_ h2_ h3_ h4_ h5_ h6_ h7_ h8_ h9_ h10_ h11_ h12_
   have HO450 := n0_
   have HO453 := n1_
   have HO456 := n2_
   have BK444 := n3_
   have BK445 := n4_
   have BK458 := n5_
   have GW458 := n6_
   have GE458 := n7_
   have NB444_458 := n8_
   have NB458_444 := n9_
   have NB445_458 := n10_
   have NB458_445 := n11_
   have HB := n12_
   clear n0_ n1_ n2_ n3_ n4_ n5_ n6_ n7_ n8_ n9_ n10_ n11_ n12_
   have hHeld : w40.cell? ⟨gb444, 0, none⟩ = some (.slice A0_0 l0_0.length c0_0) ∧ w40.cell? ⟨gb445, 0, none⟩ = some (.slice A1_0 l1_0.length c1_0) := hS_
   obtain ⟨Ao41, co41, eo41⟩ := Kd.R_slice HO456.out
   (first | subst eo41 | (injection eo41 with f1_ f2_ f3_; have f4_ := f1_.symm; have f5_ := f3_.symm; clear f1_ f2_ f3_; subst f4_; subst f5_))
   refine norm_ (a' := ?_) ?_ ?_
   rotate_left
   ·simp only [putAll, Act.put, List.setIfInBounds_toArray, List.set_cons_zero, List.set_cons_succ]
    rfl
   refine one_ (i := 9) (N := none) #[true, true, true, true, true, true, true, true, true, true, false] rfl rfl (one_of HT_.out (by kernel_rfl)) (by decide) (fun K hK => ?_)
   have hs42 : w40.cell? ⟨gb458, 0, none⟩ = some (.slice none 0 0) := (blk_cell BK458.out 0).trans rfl
   have hfs42 := blk_frozen BK458.out 0
   have hns42_0 := NB444_458.out
   have hns42_1 := NB445_458.out
   have hms42_0 := NB458_444.out
   have hms42_1 := NB458_445.out
   refine skip_ (w1 := ?_) (by rfl) rfl ?_ ?_
   rotate_left
   ·go_simp
    rfl
   refine hK.out _ _ ⟨((cell_far (p := ⟨gb458, _, none⟩) NB444_458.out _).trans (hHeld.1)), ((cell_far (p := ⟨gb458, _, none⟩) NB445_458.out _).trans (hHeld.2))⟩ (fun hHeld => ?_)
   clear hK K
   refine pure_ (i := 10) (N := some 7) (v := ?_) (a' := ?_) #[true, true, true, true, true, true, true, true, true, true, true] rfl rfl (any_of HT_.out (by kernel_rfl)) (fun _ _ _ h => h) (Or.inl ⟨by rfl, ?_⟩) ?_ ?_
   rotate_left
   ·intro w'
    go_simp
    with_reducible rfl
   rotate_left
   ·simp only [Act.put, List.setIfInBounds_toArray, List.set_cons_zero, List.set_cons_succ, i64_w, i32_w]
    rfl
   refine done_ (done_of HT_.out (by kernel_rfl)) ?_
   have hnb43 := NB444_458.out
   have hnc43 := NB458_444.out
   have hcz44_0 : w40.cell? ⟨gb444, 0, none⟩ = some (.slice A0_0 l0_0.length c0_0) := (blk_cell BK444.out 0).trans rfl
   have hfz44_0 := blk_frozen BK444.out 0
   go_upto_region 12 with (first | ((with_reducible refine gate_callee (f := 14) rfl ?_); refine goesL_ (some 36) rfl rfl Try.func14 (by kernel_rfl) rfl #[.agg #[.slice A0_0 l0_0.length c0_0]] rfl (by (try simp only [List.map_toArray, List.map_cons, List.map_nil]); first | done | rfl | (simp only [List.length_drop, List.length_take]; rfl)) ?_; (with_reducible refine (laws_toTrie.calls k _ _ l0_0 t459 _ ?side1 ?side2 A22.out).mono ?_); (case side1 => exact Kd.C_below HR0_0.out (by repeat (first | (with_reducible first | exact HB.out | apply below_alloc | apply pw_below_drewN | apply below_drew1 | refine below_set ?_ GE444.out | refine below_set ?_ GE445.out | refine below_set ?_ GE458.out) | exact HB.out))); (case side2 => exact HC0_0.out); rintro e w45 ⟨v460, rfl, ho0, hb⟩; refine ⟨_, rfl, ?_⟩; have n0_ := Aside0.mk (Kd.R_elder' (by (with_reducible repeat (first | apply Kd.R_alloc | apply Kd.R_drewN | apply Kd.R_drew)); exact (Kd.R_mono (R_same_ (Kd.R_far (p := ⟨gb458, 0, none⟩) (Kd.R_types HO450.out BK458.out (by decide)) (fun _ hk => hk.2) (.slice Ao41 t454.length co41)) rfl) (fun _ h_ => h_.1))) (Kd.R_base ho0) hb); have n1_ := Aside0.mk (Kd.R_elder' (by (with_reducible repeat (first | apply Kd.R_alloc | apply Kd.R_drewN | apply Kd.R_drew)); exact (Kd.R_mono (R_same_ (Kd.R_far (p := ⟨gb458, 0, none⟩) (Kd.R_types HO453.out BK458.out (by decide)) (fun _ hk => hk.2) (.slice Ao41 t454.length co41)) rfl) (fun _ h_ => h_.1))) (Kd.R_base ho0) hb); have n2_ := Aside0.mk (Kd.R_elder' (by (with_reducible repeat (first | apply Kd.R_alloc | apply Kd.R_drewN | apply Kd.R_drew)); exact (Kd.R_mono (R_same_ (Kd.R_far (p := ⟨gb458, 0, none⟩) (Kd.R_types HO456.out BK458.out (by decide)) (fun _ hk => hk.2) (.slice Ao41 t454.length co41)) rfl) (fun _ h_ => h_.1))) (Kd.R_base ho0) hb); have n3_ := Aside0.mk (Kd.R_lower (Kd.R_new' (Kd.R_new' (Kd.R_new' ho0 (Kd.R_lt (by (with_reducible repeat (first | apply Kd.R_alloc | apply Kd.R_drewN | apply Kd.R_drew)); exact (Kd.R_mono (R_same_ (Kd.R_far (p := ⟨gb458, 0, none⟩) (Kd.R_types HO450.out BK458.out (by decide)) (fun _ hk => hk.2) (.slice Ao41 t454.length co41)) rfl) (fun _ h_ => h_.1))))) (Kd.R_lt (by (with_reducible repeat (first | apply Kd.R_alloc | apply Kd.R_drewN | apply Kd.R_drew)); exact (Kd.R_mono (R_same_ (Kd.R_far (p := ⟨gb458, 0, none⟩) (Kd.R_types HO453.out BK458.out (by decide)) (fun _ hk => hk.2) (.slice Ao41 t454.length co41)) rfl) (fun _ h_ => h_.1))))) (Kd.R_lt (by (with_reducible repeat (first | apply Kd.R_alloc | apply Kd.R_drewN | apply Kd.R_drew)); exact (Kd.R_mono (R_same_ (Kd.R_far (p := ⟨gb458, 0, none⟩) (Kd.R_types HO456.out BK458.out (by decide)) (fun _ hk => hk.2) (.slice Ao41 t454.length co41)) rfl) (fun _ h_ => h_.1))))) (below_size (by repeat (first | (with_reducible first | exact HB.out | apply below_alloc | apply pw_below_drewN | apply below_drew1 | refine below_set ?_ GE444.out | refine below_set ?_ GE445.out | refine below_set ?_ GE458.out) | exact HB.out)))); have n4_ := Aside0.mk (blk_below (g := gb444) (o := .cells #[.slice A0_0 l0_0.length c0_0] 32 (0, 0)) (by (with_reducible repeat (first | refine blk_drewN ?_ _ | refine blk_drew ?_ | refine blk_alloc ?_ _)); refine blk_far ?_ NB444_458.out _; (with_reducible repeat (first | refine blk_drewN ?_ _ | refine blk_drew ?_ | refine blk_alloc ?_ _)); exact BK444.out) hb); have n5_ := Aside0.mk (blk_below (g := gb445) (o := .cells #[.slice A1_0 l1_0.length c1_0] 32 (0, 0)) (by (with_reducible repeat (first | refine blk_drewN ?_ _ | refine blk_drew ?_ | refine blk_alloc ?_ _)); refine blk_far ?_ NB445_458.out _; (with_reducible repeat (first | refine blk_drewN ?_ _ | refine blk_drew ?_ | refine blk_alloc ?_ _)); exact BK445.out) hb); have n6_ := Aside0.mk (blk_below (g := gb458) (o := .cells #[.slice Ao41 t454.length co41] 24 (0, 0)) (by (with_reducible repeat (first | refine blk_drewN ?_ _ | refine blk_drew ?_ | refine blk_alloc ?_ _)); refine blk_put (cs := #[.slice none 0 0]) ?_ 0 _ rfl; (with_reducible repeat (first | refine blk_drewN ?_ _ | refine blk_drew ?_ | refine blk_alloc ?_ _)); exact BK458.out) hb); have n7_ := Aside0.mk (below_step (by repeat (first | (with_reducible first | exact HB.out | apply below_alloc | apply pw_below_drewN | apply below_drew1 | refine below_set ?_ GE444.out | refine below_set ?_ GE445.out | refine below_set ?_ GE458.out) | exact HB.out)) hb); clear HO450; clear HO453; clear HO456; clear BK444; clear BK445; clear BK458; clear HB; have HO450 := n0_; have HO453 := n1_; have HO456 := n2_; have HO461 := n3_; have BK444 := n4_; have BK445 := n5_; have BK458 := n6_; have HB := n7_; clear n0_ n1_ n2_ n3_ n4_ n5_ n6_ n7_; (try clear hb); (try clear hb2); (try clear hk); (try clear hi); (try clear ho0)) | ((with_reducible refine gate_dst (N := 8) rfl ?_); refine box_event ?hg (N := 8) ?hd (cs := #[.slice none 0 0]) (t := 24) ?hr ?_; (case hd => rfl); (case hg => rfl); (case hr => first | (go_simp; done) | (go_simp; rfl)); intro gb462 hg w46 hbox hb; have n0_ := Aside0.mk (Kd.R_below (by (with_reducible repeat (first | apply Kd.R_alloc | apply Kd.R_drewN | apply Kd.R_drew)); exact HO450.out) hb); have n1_ := Aside0.mk (Kd.R_below (by (with_reducible repeat (first | apply Kd.R_alloc | apply Kd.R_drewN | apply Kd.R_drew)); exact HO453.out) hb); have n2_ := Aside0.mk (Kd.R_below (by (with_reducible repeat (first | apply Kd.R_alloc | apply Kd.R_drewN | apply Kd.R_drew)); exact HO456.out) hb); have n3_ := Aside0.mk (Kd.R_below (by (with_reducible repeat (first | apply Kd.R_alloc | apply Kd.R_drewN | apply Kd.R_drew)); exact HO461.out) hb); have n4_ := Aside0.mk (blk_below (g := gb444) (o := .cells #[.slice A0_0 l0_0.length c0_0] 32 (0, 0)) (by (with_reducible repeat (first | refine blk_drewN ?_ _ | refine blk_drew ?_ | refine blk_alloc ?_ _)); exact BK444.out) hb); have n5_ := Aside0.mk (blk_below (g := gb445) (o := .cells #[.slice A1_0 l1_0.length c1_0] 32 (0, 0)) (by (with_reducible repeat (first | refine blk_drewN ?_ _ | refine blk_drew ?_ | refine blk_alloc ?_ _)); exact BK445.out) hb); have n6_ := Aside0.mk (blk_below (g := gb458) (o := .cells #[.slice Ao41 t454.length co41] 24 (0, 0)) (by (with_reducible repeat (first | refine blk_drewN ?_ _ | refine blk_drew ?_ | refine blk_alloc ?_ _)); exact BK458.out) hb); have n7_ := Aside0.mk (below_step (by repeat (first | (with_reducible first | exact HB.out | apply below_alloc | apply pw_below_drewN | apply below_drew1 | refine below_set ?_ GE444.out | refine below_set ?_ GE445.out | refine below_set ?_ GE458.out) | exact HB.out)) hb); have n8_ := Aside0.mk (hbox); have n9_ := Aside0.mk ((by rw [hg]; exact (below_size (by repeat (first | (with_reducible first | exact HB.out | apply below_alloc | apply pw_below_drewN | apply below_drew1 | refine below_set ?_ GE444.out | refine below_set ?_ GE445.out | refine below_set ?_ GE458.out) | exact HB.out))) : w.heap.size ≤ gb462)); have n10_ := Aside0.mk ((by rw [hg]; exact (below_size (by repeat (first | (with_reducible first | exact HB.out | apply below_alloc | apply pw_below_drewN | apply below_drew1 | refine below_set ?_ GE444.out | refine below_set ?_ GE445.out | refine below_set ?_ GE458.out) | exact HB.out))) : w.heap.size ≤ gb462)); have n11_ := Aside0.mk ((by rw [hg]; exact Nat.ne_of_lt (blk_lt (g := gb444) (o := .cells #[.slice A0_0 l0_0.length c0_0] 32 (0, 0)) (by (with_reducible repeat (first | refine blk_drewN ?_ _ | refine blk_drew ?_ | refine blk_alloc ?_ _)); exact BK444.out)) : gb444 ≠ gb462)); have n12_ := Aside0.mk ((by rw [hg]; exact Nat.ne_of_gt (blk_lt (g := gb444) (o := .cells #[.slice A0_0 l0_0.length c0_0] 32 (0, 0)) (by (with_reducible repeat (first | refine blk_drewN ?_ _ | refine blk_drew ?_ | refine blk_alloc ?_ _)); exact BK444.out)) : gb462 ≠ gb444)); have n13_ := Aside0.mk ((by rw [hg]; exact Nat.ne_of_lt (blk_lt (g := gb445) (o := .cells #[.slice A1_0 l1_0.length c1_0] 32 (0, 0)) (by (with_reducible repeat (first | refine blk_drewN ?_ _ | refine blk_drew ?_ | refine blk_alloc ?_ _)); exact BK445.out)) : gb445 ≠ gb462)); have n14_ := Aside0.mk ((by rw [hg]; exact Nat.ne_of_gt (blk_lt (g := gb445) (o := .cells #[.slice A1_0 l1_0.length c1_0] 32 (0, 0)) (by (with_reducible repeat (first | refine blk_drewN ?_ _ | refine blk_drew ?_ | refine blk_alloc ?_ _)); exact BK445.out)) : gb462 ≠ gb445)); have n15_ := Aside0.mk ((by rw [hg]; exact Nat.ne_of_lt (blk_lt (g := gb458) (o := .cells #[.slice Ao41 t454.length co41] 24 (0, 0)) (by (with_reducible repeat (first | refine blk_drewN ?_ _ | refine blk_drew ?_ | refine blk_alloc ?_ _)); exact BK458.out)) : gb458 ≠ gb462)); have n16_ := Aside0.mk ((by rw [hg]; exact Nat.ne_of_gt (blk_lt (g := gb458) (o := .cells #[.slice Ao41 t454.length co41] 24 (0, 0)) (by (with_reducible repeat (first | refine blk_drewN ?_ _ | refine blk_drew ?_ | refine blk_alloc ?_ _)); exact BK458.out)) : gb462 ≠ gb458)); clear HO450; clear HO453; clear HO456; clear HO461; clear BK444; clear BK445; clear BK458; clear HB; have HO450 := n0_; have HO453 := n1_; have HO456 := n2_; have HO461 := n3_; have BK444 := n4_; have BK445 := n5_; have BK458 := n6_; have HB := n7_; have BK462 := n8_; have GW462 := n9_; have GE462 := n10_; have NB444_462 := n11_; have NB462_444 := n12_; have NB445_462 := n13_; have NB462_445 := n14_; have NB458_462 := n15_; have NB462_458 := n16_; clear n0_ n1_ n2_ n3_ n4_ n5_ n6_ n7_ n8_ n9_ n10_ n11_ n12_ n13_ n14_ n15_ n16_; clear hb hbox hg; obtain ⟨Ao47, co47, eo47⟩ := Kd.R_slice HO461.out; subst eo47; have hnb48 := NB462_444.out; have hnc48 := NB444_462.out; have hnb49 := NB462_445.out; have hnc49 := NB445_462.out; have hnb50 := NB462_458.out; have hnc50 := NB458_462.out; have hcz51_0 : w46.cell? ⟨gb462, 0, none⟩ = some (.slice none 0 0) := (blk_cell BK462.out 0).trans rfl; have hfz51_0 := blk_frozen BK462.out 0; have hnb52 := NB445_458.out; have hnc52 := NB458_445.out; have hcz53_0 : w46.cell? ⟨gb445, 0, none⟩ = some (.slice A1_0 l1_0.length c1_0) := (blk_cell BK445.out 0).trans rfl; have hfz53_0 := blk_frozen BK445.out 0) | ((with_reducible refine gate_callee (f := 14) rfl ?_); refine goesL_ (some 38) rfl rfl Try.func14 (by kernel_rfl) rfl #[.agg #[.slice A1_0 l1_0.length c1_0]] rfl (by (try simp only [List.map_toArray, List.map_cons, List.map_nil]); first | done | rfl | (simp only [List.length_drop, List.length_take]; rfl)) ?_; (with_reducible refine (laws_toTrie.calls k _ _ l1_0 t463 _ ?side1 ?side2 A23.out).mono ?_); (case side1 => exact Kd.C_below HR1_0.out (by repeat (first | (with_reducible first | exact HB.out | apply below_alloc | apply pw_below_drewN | apply below_drew1 | refine below_set ?_ GE444.out | refine below_set ?_ GE445.out | refine below_set ?_ GE458.out | refine below_set ?_ GE462.out) | exact HB.out))); (case side2 => exact HC1_0.out); rintro e w54 ⟨v464, rfl, ho0, hb⟩; refine ⟨_, rfl, ?_⟩; have n0_ := Aside0.mk (Kd.R_elder' (by (with_reducible repeat (first | apply Kd.R_alloc | apply Kd.R_drewN | apply Kd.R_drew)); exact (Kd.R_mono (R_same_ (Kd.R_far (p := ⟨gb462, 0, none⟩) (Kd.R_types HO450.out BK462.out (by decide)) (fun _ hk => hk.2) (.slice Ao47 t459.length co47)) rfl) (fun _ h_ => h_.1))) (Kd.R_base ho0) hb); have n1_ := Aside0.mk (Kd.R_elder' (by (with_reducible repeat (first | apply Kd.R_alloc | apply Kd.R_drewN | apply Kd.R_drew)); exact (Kd.R_mono (R_same_ (Kd.R_far (p := ⟨gb462, 0, none⟩) (Kd.R_types HO453.out BK462.out (by decide)) (fun _ hk => hk.2) (.slice Ao47 t459.length co47)) rfl) (fun _ h_ => h_.1))) (Kd.R_base ho0) hb); have n2_ := Aside0.mk (Kd.R_elder' (by (with_reducible repeat (first | apply Kd.R_alloc | apply Kd.R_drewN | apply Kd.R_drew)); exact (Kd.R_mono (R_same_ (Kd.R_far (p := ⟨gb462, 0, none⟩) (Kd.R_types HO456.out BK462.out (by decide)) (fun _ hk => hk.2) (.slice Ao47 t459.length co47)) rfl) (fun _ h_ => h_.1))) (Kd.R_base ho0) hb); have n3_ := Aside0.mk (Kd.R_elder' (by (with_reducible repeat (first | apply Kd.R_alloc | apply Kd.R_drewN | apply Kd.R_drew)); exact (Kd.R_mono (R_same_ (Kd.R_far (p := ⟨gb462, 0, none⟩) (Kd.R_types HO461.out BK462.out (by decide)) (fun _ hk => hk.2) (.slice Ao47 t459.length co47)) rfl) (fun _ h_ => h_.1))) (Kd.R_base ho0) hb); have n4_ := Aside0.mk (Kd.R_lower (Kd.R_new' (Kd.R_new' (Kd.R_new' (Kd.R_new' ho0 (Kd.R_lt (by (with_reducible repeat (first | apply Kd.R_alloc | apply Kd.R_drewN | apply Kd.R_drew)); exact (Kd.R_mono (R_same_ (Kd.R_far (p := ⟨gb462, 0, none⟩) (Kd.R_types HO450.out BK462.out (by decide)) (fun _ hk => hk.2) (.slice Ao47 t459.length co47)) rfl) (fun _ h_ => h_.1))))) (Kd.R_lt (by (with_reducible repeat (first | apply Kd.R_alloc | apply Kd.R_drewN | apply Kd.R_drew)); exact (Kd.R_mono (R_same_ (Kd.R_far (p := ⟨gb462, 0, none⟩) (Kd.R_types HO453.out BK462.out (by decide)) (fun _ hk => hk.2) (.slice Ao47 t459.length co47)) rfl) (fun _ h_ => h_.1))))) (Kd.R_lt (by (with_reducible repeat (first | apply Kd.R_alloc | apply Kd.R_drewN | apply Kd.R_drew)); exact (Kd.R_mono (R_same_ (Kd.R_far (p := ⟨gb462, 0, none⟩) (Kd.R_types HO456.out BK462.out (by decide)) (fun _ hk => hk.2) (.slice Ao47 t459.length co47)) rfl) (fun _ h_ => h_.1))))) (Kd.R_lt (by (with_reducible repeat (first | apply Kd.R_alloc | apply Kd.R_drewN | apply Kd.R_drew)); exact (Kd.R_mono (R_same_ (Kd.R_far (p := ⟨gb462, 0, none⟩) (Kd.R_types HO461.out BK462.out (by decide)) (fun _ hk => hk.2) (.slice Ao47 t459.length co47)) rfl) (fun _ h_ => h_.1))))) (below_size (by repeat (first | (with_reducible first | exact HB.out | apply below_alloc | apply pw_below_drewN | apply below_drew1 | refine below_set ?_ GE444.out | refine below_set ?_ GE445.out | refine below_set ?_ GE458.out | refine below_set ?_ GE462.out) | exact HB.out)))); have n5_ := Aside0.mk (blk_below (g := gb444) (o := .cells #[.slice A0_0 l0_0.length c0_0] 32 (0, 0)) (by (with_reducible repeat (first | refine blk_drewN ?_ _ | refine blk_drew ?_ | refine blk_alloc ?_ _)); refine blk_far ?_ NB444_462.out _; (with_reducible repeat (first | refine blk_drewN ?_ _ | refine blk_drew ?_ | refine blk_alloc ?_ _)); exact BK444.out) hb); have n6_ := Aside0.mk (blk_below (g := gb445) (o := .cells #[.slice A1_0 l1_0.length c1_0] 32 (0, 0)) (by (with_reducible repeat (first | refine blk_drewN ?_ _ | refine blk_drew ?_ | refine blk_alloc ?_ _)); refine blk_far ?_ NB445_462.out _; (with_reducible repeat (first | refine blk_drewN ?_ _ | refine blk_drew ?_ | refine blk_alloc ?_ _)); exact BK445.out) hb); have n7_ := Aside0.mk (blk_below (g := gb458) (o := .cells #[.slice Ao41 t454.length co41] 24 (0, 0)) (by (with_reducible repeat (first | refine blk_drewN ?_ _ | refine blk_drew ?_ | refine blk_alloc ?_ _)); refine blk_far ?_ NB458_462.out _; (with_reducible repeat (first | refine blk_drewN ?_ _ | refine blk_drew ?_ | refine blk_alloc ?_ _)); exact BK458.out) hb); have n8_ := Aside0.mk (blk_below (g := gb462) (o := .cells #[.slice Ao47 t459.length co47] 24 (0, 0)) (by (with_reducible repeat (first | refine blk_drewN ?_ _ | refine blk_drew ?_ | refine blk_alloc ?_ _)); refine blk_put (cs := #[.slice none 0 0]) ?_ 0 _ rfl; (with_reducible repeat (first | refine blk_drewN ?_ _ | refine blk_drew ?_ | refine blk_alloc ?_ _)); exact BK462.out) hb); have n9_ := Aside0.mk (below_step (by repeat (first | (with_reducible first | exact HB.out | apply below_alloc | apply pw_below_drewN | apply below_drew1 | refine below_set ?_ GE444.out | refine below_set ?_ GE445.out | refine below_set ?_ GE458.out | refine below_set ?_ GE462.out) | exact HB.out)) hb); clear HO450; clear HO453; clear HO456; clear HO461; clear BK444; clear BK445; clear BK458; clear BK462; clear HB; have HO450 := n0_; have HO453 := n1_; have HO456 := n2_; have HO461 := n3_; have HO465 := n4_; have BK444 := n5_; have BK445 := n6_; have BK458 := n7_; have BK462 := n8_; have HB := n9_; clear n0_ n1_ n2_ n3_ n4_ n5_ n6_ n7_ n8_ n9_; (try clear hb); (try clear hb2); (try clear hk); (try clear hi); (try clear ho0)) | ((with_reducible refine gate_dst (N := 9) rfl ?_); refine box_event ?hg (N := 9) ?hd (cs := #[.slice none 0 0]) (t := 24) ?hr ?_; (case hd => rfl); (case hg => rfl); (case hr => first | (go_simp; done) | (go_simp; rfl)); intro gb466 hg w55 hbox hb; have n0_ := Aside0.mk (Kd.R_below (by (with_reducible repeat (first | apply Kd.R_alloc | apply Kd.R_drewN | apply Kd.R_drew)); exact HO450.out) hb); have n1_ := Aside0.mk (Kd.R_below (by (with_reducible repeat (first | apply Kd.R_alloc | apply Kd.R_drewN | apply Kd.R_drew)); exact HO453.out) hb); have n2_ := Aside0.mk (Kd.R_below (by (with_reducible repeat (first | apply Kd.R_alloc | apply Kd.R_drewN | apply Kd.R_drew)); exact HO456.out) hb); have n3_ := Aside0.mk (Kd.R_below (by (with_reducible repeat (first | apply Kd.R_alloc | apply Kd.R_drewN | apply Kd.R_drew)); exact HO461.out) hb); have n4_ := Aside0.mk (Kd.R_below (by (with_reducible repeat (first | apply Kd.R_alloc | apply Kd.R_drewN | apply Kd.R_drew)); exact HO465.out) hb); have n5_ := Aside0.mk (blk_below (g := gb444) (o := .cells #[.slice A0_0 l0_0.length c0_0] 32 (0, 0)) (by (with_reducible repeat (first | refine blk_drewN ?_ _ | refine blk_drew ?_ | refine blk_alloc ?_ _)); exact BK444.out) hb); have n6_ := Aside0.mk (blk_below (g := gb445) (o := .cells #[.slice A1_0 l1_0.length c1_0] 32 (0, 0)) (by (with_reducible repeat (first | refine blk_drewN ?_ _ | refine blk_drew ?_ | refine blk_alloc ?_ _)); exact BK445.out) hb); have n7_ := Aside0.mk (blk_below (g := gb458) (o := .cells #[.slice Ao41 t454.length co41] 24 (0, 0)) (by (with_reducible repeat (first | refine blk_drewN ?_ _ | refine blk_drew ?_ | refine blk_alloc ?_ _)); exact BK458.out) hb); have n8_ := Aside0.mk (blk_below (g := gb462) (o := .cells #[.slice Ao47 t459.length co47] 24 (0, 0)) (by (with_reducible repeat (first | refine blk_drewN ?_ _ | refine blk_drew ?_ | refine blk_alloc ?_ _)); exact BK462.out) hb); have n9_ := Aside0.mk (below_step (by repeat (first | (with_reducible first | exact HB.out | apply below_alloc | apply pw_below_drewN | apply below_drew1 | refine below_set ?_ GE444.out | refine below_set ?_ GE445.out | refine below_set ?_ GE458.out | refine below_set ?_ GE462.out) | exact HB.out)) hb); have n10_ := Aside0.mk (hbox); have n11_ := Aside0.mk ((by rw [hg]; exact (below_size (by repeat (first | (with_reducible first | exact HB.out | apply below_alloc | apply pw_below_drewN | apply below_drew1 | refine below_set ?_ GE444.out | refine below_set ?_ GE445.out | refine below_set ?_ GE458.out | refine below_set ?_ GE462.out) | exact HB.out))) : w.heap.size ≤ gb466)); have n12_ := Aside0.mk ((by rw [hg]; exact (below_size (by repeat (first | (with_reducible first | exact HB.out | apply below_alloc | apply pw_below_drewN | apply below_drew1 | refine below_set ?_ GE444.out | refine below_set ?_ GE445.out | refine below_set ?_ GE458.out | refine below_set ?_ GE462.out) | exact HB.out))) : w.heap.size ≤ gb466)); have n13_ := Aside0.mk ((by rw [hg]; exact Nat.ne_of_lt (blk_lt (g := gb444) (o := .cells #[.slice A0_0 l0_0.length c0_0] 32 (0, 0)) (by (with_reducible repeat (first | refine blk_drewN ?_ _ | refine blk_drew ?_ | refine blk_alloc ?_ _)); exact BK444.out)) : gb444 ≠ gb466)); have n14_ := Aside0.mk ((by rw [hg]; exact Nat.ne_of_gt (blk_lt (g := gb444) (o := .cells #[.slice A0_0 l0_0.length c0_0] 32 (0, 0)) (by (with_reducible repeat (first | refine blk_drewN ?_ _ | refine blk_drew ?_ | refine blk_alloc ?_ _)); exact BK444.out)) : gb466 ≠ gb444)); have n15_ := Aside0.mk ((by rw [hg]; exact Nat.ne_of_lt (blk_lt (g := gb445) (o := .cells #[.slice A1_0 l1_0.length c1_0] 32 (0, 0)) (by (with_reducible repeat (first | refine blk_drewN ?_ _ | refine blk_drew ?_ | refine blk_alloc ?_ _)); exact BK445.out)) : gb445 ≠ gb466)); have n16_ := Aside0.mk ((by rw [hg]; exact Nat.ne_of_gt (blk_lt (g := gb445) (o := .cells #[.slice A1_0 l1_0.length c1_0] 32 (0, 0)) (by (with_reducible repeat (first | refine blk_drewN ?_ _ | refine blk_drew ?_ | refine blk_alloc ?_ _)); exact BK445.out)) : gb466 ≠ gb445)); have n17_ := Aside0.mk ((by rw [hg]; exact Nat.ne_of_lt (blk_lt (g := gb458) (o := .cells #[.slice Ao41 t454.length co41] 24 (0, 0)) (by (with_reducible repeat (first | refine blk_drewN ?_ _ | refine blk_drew ?_ | refine blk_alloc ?_ _)); exact BK458.out)) : gb458 ≠ gb466)); have n18_ := Aside0.mk ((by rw [hg]; exact Nat.ne_of_gt (blk_lt (g := gb458) (o := .cells #[.slice Ao41 t454.length co41] 24 (0, 0)) (by (with_reducible repeat (first | refine blk_drewN ?_ _ | refine blk_drew ?_ | refine blk_alloc ?_ _)); exact BK458.out)) : gb466 ≠ gb458)); have n19_ := Aside0.mk ((by rw [hg]; exact Nat.ne_of_lt (blk_lt (g := gb462) (o := .cells #[.slice Ao47 t459.length co47] 24 (0, 0)) (by (with_reducible repeat (first | refine blk_drewN ?_ _ | refine blk_drew ?_ | refine blk_alloc ?_ _)); exact BK462.out)) : gb462 ≠ gb466)); have n20_ := Aside0.mk ((by rw [hg]; exact Nat.ne_of_gt (blk_lt (g := gb462) (o := .cells #[.slice Ao47 t459.length co47] 24 (0, 0)) (by (with_reducible repeat (first | refine blk_drewN ?_ _ | refine blk_drew ?_ | refine blk_alloc ?_ _)); exact BK462.out)) : gb466 ≠ gb462)); clear HO450; clear HO453; clear HO456; clear HO461; clear HO465; clear BK444; clear BK445; clear BK458; clear BK462; clear HB; have HO450 := n0_; have HO453 := n1_; have HO456 := n2_; have HO461 := n3_; have HO465 := n4_; have BK444 := n5_; have BK445 := n6_; have BK458 := n7_; have BK462 := n8_; have HB := n9_; have BK466 := n10_; have GW466 := n11_; have GE466 := n12_; have NB444_466 := n13_; have NB466_444 := n14_; have NB445_466 := n15_; have NB466_445 := n16_; have NB458_466 := n17_; have NB466_458 := n18_; have NB462_466 := n19_; have NB466_462 := n20_; clear n0_ n1_ n2_ n3_ n4_ n5_ n6_ n7_ n8_ n9_ n10_ n11_ n12_ n13_ n14_ n15_ n16_ n17_ n18_ n19_ n20_; clear hb hbox hg; obtain ⟨Ao56, co56, eo56⟩ := Kd.R_slice HO465.out; subst eo56; have hnb57 := NB466_444.out; have hnc57 := NB444_466.out; have hnb58 := NB466_445.out; have hnc58 := NB445_466.out; have hnb59 := NB466_458.out; have hnc59 := NB458_466.out; have hnb60 := NB466_462.out; have hnc60 := NB462_466.out; have hcz61_0 : w55.cell? ⟨gb466, 0, none⟩ = some (.slice none 0 0) := (blk_cell BK466.out 0).trans rfl; have hfz61_0 := blk_frozen BK466.out 0; have hcz62_0 : w55.cell? ⟨gb462, 0, none⟩ = some (.slice Ao47 t459.length co47) := (blk_cell BK462.out 0).trans rfl; have hfz62_0 := blk_frozen BK462.out 0) | ((with_reducible refine gate_callee (f := 17) rfl ?_); refine goesL_ (some 42) rfl rfl Try.func17 (by kernel_rfl) rfl #[.agg #[.slice Ao47 t459.length co47], .agg #[.slice Ao56 t463.length co56]] rfl (by (try simp only [List.map_toArray, List.map_cons, List.map_nil]); first | done | rfl | (simp only [List.length_drop, List.length_take]; rfl)) ?_; (with_reducible refine (impl_WithoutTrie.calls _ _ t459 _ _ t463 t467 t470 _ ?side1 ?side2 ?side3 ?side4 A24.out).mono ?_); (case side1 => refine (Kd.R_reads' (e := 67) (base := w.heap.size) (ok := fun k_ => ((((True ∧ some k_ ≠ (v449 : Value).ownBlock) ∧ some k_ ≠ (v452 : Value).ownBlock) ∧ some k_ ≠ (.slice Ao41 t454.length co41 : Value).ownBlock) ∧ some k_ ≠ (.slice Ao56 t463.length co56 : Value).ownBlock)) (n := t459.length) (c := co47) ?_).2.2; exact (by (with_reducible repeat (first | apply Kd.R_alloc | apply Kd.R_drewN | apply Kd.R_drew)); exact (Kd.R_mono (R_same_ (Kd.R_far (p := ⟨gb466, 0, none⟩) (Kd.R_types HO461.out BK466.out (by decide)) (fun _ hk => hk.2) (.slice Ao56 t463.length co56)) rfl) (fun _ h_ => h_.1)))); (case side2 => exact (Kd.R_reads' HO461.out).2.1); (case side3 => refine (Kd.R_reads' (e := 67) (base := w.heap.size) (ok := fun k_ => ((((True ∧ some k_ ≠ (v449 : Value).ownBlock) ∧ some k_ ≠ (v452 : Value).ownBlock) ∧ some k_ ≠ (.slice Ao41 t454.length co41 : Value).ownBlock) ∧ some k_ ≠ (.slice Ao47 t459.length co47 : Value).ownBlock)) (n := t463.length) (c := co56) ?_).2.2; exact (by (with_reducible repeat (first | apply Kd.R_alloc | apply Kd.R_drewN | apply Kd.R_drew)); exact (Kd.R_mono (R_same_ (Kd.R_far (p := ⟨gb466, 0, none⟩) (Kd.R_types HO465.out BK466.out (by decide)) (fun _ hk => hk.2) (.slice Ao56 t463.length co56)) rfl) (fun _ h_ => h_.1)))); (case side4 => exact (Kd.R_reads' HO465.out).2.1); rintro e w63 ⟨v468, rfl, ho0, hb⟩; refine ⟨_, rfl, ?_⟩; have n0_ := Aside0.mk (Kd.R_elder' (by (with_reducible repeat (first | apply Kd.R_alloc | apply Kd.R_drewN | apply Kd.R_drew)); exact (Kd.R_mono (R_same_ (Kd.R_far (p := ⟨gb466, 0, none⟩) (Kd.R_types HO450.out BK466.out (by decide)) (fun _ hk => hk.2) (.slice Ao56 t463.length co56)) rfl) (fun _ h_ => h_.1))) (Kd.R_base ho0) hb); have n1_ := Aside0.mk (Kd.R_elder' (by (with_reducible repeat (first | apply Kd.R_alloc | apply Kd.R_drewN | apply Kd.R_drew)); exact (Kd.R_mono (R_same_ (Kd.R_far (p := ⟨gb466, 0, none⟩) (Kd.R_types HO453.out BK466.out (by decide)) (fun _ hk => hk.2) (.slice Ao56 t463.length co56)) rfl) (fun _ h_ => h_.1))) (Kd.R_base ho0) hb); have n2_ := Aside0.mk (Kd.R_elder' (by (with_reducible repeat (first | apply Kd.R_alloc | apply Kd.R_drewN | apply Kd.R_drew)); exact (Kd.R_mono (R_same_ (Kd.R_far (p := ⟨gb466, 0, none⟩) (Kd.R_types HO456.out BK466.out (by decide)) (fun _ hk => hk.2) (.slice Ao56 t463.length co56)) rfl) (fun _ h_ => h_.1))) (Kd.R_base ho0) hb); have n3_ := Aside0.mk (Kd.R_elder' (by (with_reducible repeat (first | apply Kd.R_alloc | apply Kd.R_drewN | apply Kd.R_drew)); exact (Kd.R_mono (R_same_ (Kd.R_far (p := ⟨gb466, 0, none⟩) (Kd.R_types HO461.out BK466.out (by decide)) (fun _ hk => hk.2) (.slice Ao56 t463.length co56)) rfl) (fun _ h_ => h_.1))) (Kd.R_base ho0) hb); have n4_ := Aside0.mk (Kd.R_elder' (by (with_reducible repeat (first | apply Kd.R_alloc | apply Kd.R_drewN | apply Kd.R_drew)); exact (Kd.R_mono (R_same_ (Kd.R_far (p := ⟨gb466, 0, none⟩) (Kd.R_types HO465.out BK466.out (by decide)) (fun _ hk => hk.2) (.slice Ao56 t463.length co56)) rfl) (fun _ h_ => h_.1))) (Kd.R_base ho0) hb); have n5_ := Aside0.mk (Kd.R_lower (Kd.R_new' (Kd.R_new' (Kd.R_new' (Kd.R_new' (Kd.R_new' ho0 (Kd.R_lt (by (with_reducible repeat (first | apply Kd.R_alloc | apply Kd.R_drewN | apply Kd.R_drew)); exact (Kd.R_mono (R_same_ (Kd.R_far (p := ⟨gb466, 0, none⟩) (Kd.R_types HO450.out BK466.out (by decide)) (fun _ hk => hk.2) (.slice Ao56 t463.length co56)) rfl) (fun _ h_ => h_.1))))) (Kd.R_lt (by (with_reducible repeat (first | apply Kd.R_alloc | apply Kd.R_drewN | apply Kd.R_drew)); exact (Kd.R_mono (R_same_ (Kd.R_far (p := ⟨gb466, 0, none⟩) (Kd.R_types HO453.out BK466.out (by decide)) (fun _ hk => hk.2) (.slice Ao56 t463.length co56)) rfl) (fun _ h_ => h_.1))))) (Kd.R_lt (by (with_reducible repeat (first | apply Kd.R_alloc | apply Kd.R_drewN | apply Kd.R_drew)); exact (Kd.R_mono (R_same_ (Kd.R_far (p := ⟨gb466, 0, none⟩) (Kd.R_types HO456.out BK466.out (by decide)) (fun _ hk => hk.2) (.slice Ao56 t463.length co56)) rfl) (fun _ h_ => h_.1))))) (Kd.R_lt (by (with_reducible repeat (first | apply Kd.R_alloc | apply Kd.R_drewN | apply Kd.R_drew)); exact (Kd.R_mono (R_same_ (Kd.R_far (p := ⟨gb466, 0, none⟩) (Kd.R_types HO461.out BK466.out (by decide)) (fun _ hk => hk.2) (.slice Ao56 t463.length co56)) rfl) (fun _ h_ => h_.1))))) (Kd.R_lt (by (with_reducible repeat (first | apply Kd.R_alloc | apply Kd.R_drewN | apply Kd.R_drew)); exact (Kd.R_mono (R_same_ (Kd.R_far (p := ⟨gb466, 0, none⟩) (Kd.R_types HO465.out BK466.out (by decide)) (fun _ hk => hk.2) (.slice Ao56 t463.length co56)) rfl) (fun _ h_ => h_.1))))) (below_size (by repeat (first | (with_reducible first | exact HB.out | apply below_alloc | apply pw_below_drewN | apply below_drew1 | refine below_set ?_ GE444.out | refine below_set ?_ GE445.out | refine below_set ?_ GE458.out | refine below_set ?_ GE462.out | refine below_set ?_ GE466.out) | exact HB.out)))); have n6_ := Aside0.mk (blk_below (g := gb444) (o := .cells #[.slice A0_0 l0_0.length c0_0] 32 (0, 0)) (by (with_reducible repeat (first | refine blk_drewN ?_ _ | refine blk_drew ?_ | refine blk_alloc ?_ _)); refine blk_far ?_ NB444_466.out _; (with_reducible repeat (first | refine blk_drewN ?_ _ | refine blk_drew ?_ | refine blk_alloc ?_ _)); exact BK444.out) hb); have n7_ := Aside0.mk (blk_below (g := gb445) (o := .cells #[.slice A1_0 l1_0.length c1_0] 32 (0, 0)) (by (with_reducible repeat (first | refine blk_drewN ?_ _ | refine blk_drew ?_ | refine blk_alloc ?_ _)); refine blk_far ?_ NB445_466.out _; (with_reducible repeat (first | refine blk_drewN ?_ _ | refine blk_drew ?_ | refine blk_alloc ?_ _)); exact BK445.out) hb); have n8_ := Aside0.mk (blk_below (g := gb458) (o := .cells #[.slice Ao41 t454.length co41] 24 (0, 0)) (by (with_reducible repeat (first | refine blk_drewN ?_ _ | refine blk_drew ?_ | refine blk_alloc ?_ _)); refine blk_far ?_ NB458_466.out _; (with_reducible repeat (first | refine blk_drewN ?_ _ | refine blk_drew ?_ | refine blk_alloc ?_ _)); exact BK458.out) hb); have n9_ := Aside0.mk (blk_below (g := gb462) (o := .cells #[.slice Ao47 t459.length co47] 24 (0, 0)) (by (with_reducible repeat (first | refine blk_drewN ?_ _ | refine blk_drew ?_ | refine blk_alloc ?_ _)); refine blk_far ?_ NB462_466.out _; (with_reducible repeat (first | refine blk_drewN ?_ _ | refine blk_drew ?_ | refine blk_alloc ?_ _)); exact BK462.out) hb); have n10_ := Aside0.mk (blk_below (g := gb466) (o := .cells #[.slice Ao56 t463.length co56] 24 (0, 0)) (by (with_reducible repeat (first | refine blk_drewN ?_ _ | refine blk_drew ?_ | refine blk_alloc ?_ _)); refine blk_put (cs := #[.slice none 0 0]) ?_ 0 _ rfl; (with_reducible repeat (first | refine blk_drewN ?_ _ | refine blk_drew ?_ | refine blk_alloc ?_ _)); exact BK466.out) hb); have n11_ := Aside0.mk (below_step (by repeat (first | (with_reducible first | exact HB.out | apply below_alloc | apply pw_below_drewN | apply below_drew1 | refine below_set ?_ GE444.out | refine below_set ?_ GE445.out | refine below_set ?_ GE458.out | refine below_set ?_ GE462.out | refine below_set ?_ GE466.out) | exact HB.out)) hb); clear HO450; clear HO453; clear HO456; clear HO461; clear HO465; clear BK444; clear BK445; clear BK458; clear BK462; clear BK466; clear HB; have HO450 := n0_; have HO453 := n1_; have HO456 := n2_; have HO461 := n3_; have HO465 := n4_; have HO469 := n5_; have BK444 := n6_; have BK445 := n7_; have BK458 := n8_; have BK462 := n9_; have BK466 := n10_; have HB := n11_; clear n0_ n1_ n2_ n3_ n4_ n5_ n6_ n7_ n8_ n9_ n10_ n11_; (try clear hb); (try clear hb2); (try clear hk); (try clear hi); (try clear ho0)) | ((with_reducible refine gate_dst (N := 10) rfl ?_); refine box_event ?hg (N := 10) ?hd (cs := #[.slice none 0 0]) (t := 24) ?hr ?_; (case hd => rfl); (case hg => rfl); (case hr => first | (go_simp; done) | (go_simp; rfl)); intro gb471 hg w64 hbox hb; have n0_ := Aside0.mk (Kd.R_below (by (with_reducible repeat (first | apply Kd.R_alloc | apply Kd.R_drewN | apply Kd.R_drew)); exact HO450.out) hb); have n1_ := Aside0.mk (Kd.R_below (by (with_reducible repeat (first | apply Kd.R_alloc | apply Kd.R_drewN | apply Kd.R_drew)); exact HO453.out) hb); have n2_ := Aside0.mk (Kd.R_below (by (with_reducible repeat (first | apply Kd.R_alloc | apply Kd.R_drewN | apply Kd.R_drew)); exact HO456.out) hb); have n3_ := Aside0.mk (Kd.R_below (by (with_reducible repeat (first | apply Kd.R_alloc | apply Kd.R_drewN | apply Kd.R_drew)); exact HO461.out) hb); have n4_ := Aside0.mk (Kd.R_below (by (with_reducible repeat (first | apply Kd.R_alloc | apply Kd.R_drewN | apply Kd.R_drew)); exact HO465.out) hb); have n5_ := Aside0.mk (Kd.R_below (by (with_reducible repeat (first | apply Kd.R_alloc | apply Kd.R_drewN | apply Kd.R_drew)); exact HO469.out) hb); have n6_ := Aside0.mk (blk_below (g := gb444) (o := .cells #[.slice A0_0 l0_0.length c0_0] 32 (0, 0)) (by (with_reducible repeat (first | refine blk_drewN ?_ _ | refine blk_drew ?_ | refine blk_alloc ?_ _)); exact BK444.out) hb); have n7_ := Aside0.mk (blk_below (g := gb445) (o := .cells #[.slice A1_0 l1_0.length c1_0] 32 (0, 0)) (by (with_reducible repeat (first | refine blk_drewN ?_ _ | refine blk_drew ?_ | refine blk_alloc ?_ _)); exact BK445.out) hb); have n8_ := Aside0.mk (blk_below (g := gb458) (o := .cells #[.slice Ao41 t454.length co41] 24 (0, 0)) (by (with_reducible repeat (first | refine blk_drewN ?_ _ | refine blk_drew ?_ | refine blk_alloc ?_ _)); exact BK458.out) hb); have n9_ := Aside0.mk (blk_below (g := gb462) (o := .cells #[.slice Ao47 t459.length co47] 24 (0, 0)) (by (with_reducible repeat (first | refine blk_drewN ?_ _ | refine blk_drew ?_ | refine blk_alloc ?_ _)); exact BK462.out) hb); have n10_ := Aside0.mk (blk_below (g := gb466) (o := .cells #[.slice Ao56 t463.length co56] 24 (0, 0)) (by (with_reducible repeat (first | refine blk_drewN ?_ _ | refine blk_drew ?_ | refine blk_alloc ?_ _)); exact BK466.out) hb); have n11_ := Aside0.mk (below_step (by repeat (first | (with_reducible first | exact HB.out | apply below_alloc | apply pw_below_drewN | apply below_drew1 | refine below_set ?_ GE444.out | refine below_set ?_ GE445.out | refine below_set ?_ GE458.out | refine below_set ?_ GE462.out | refine below_set ?_ GE466.out) | exact HB.out)) hb); have n12_ := Aside0.mk (hbox); have n13_ := Aside0.mk ((by rw [hg]; exact (below_size (by repeat (first | (with_reducible first | exact HB.out | apply below_alloc | apply pw_below_drewN | apply below_drew1 | refine below_set ?_ GE444.out | refine below_set ?_ GE445.out | refine below_set ?_ GE458.out | refine below_set ?_ GE462.out | refine below_set ?_ GE466.out) | exact HB.out))) : w.heap.size ≤ gb471)); have n14_ := Aside0.mk ((by rw [hg]; exact (below_size (by repeat (first | (with_reducible first | exact HB.out | apply below_alloc | apply pw_below_drewN | apply below_drew1 | refine below_set ?_ GE444.out | refine below_set ?_ GE445.out | refine below_set ?_ GE458.out | refine below_set ?_ GE462.out | refine below_set ?_ GE466.out) | exact HB.out))) : w.heap.size ≤ gb471)); have n15_ := Aside0.mk ((by rw [hg]; exact Nat.ne_of_lt (blk_lt (g := gb444) (o := .cells #[.slice A0_0 l0_0.length c0_0] 32 (0, 0)) (by (with_reducible repeat (first | refine blk_drewN ?_ _ | refine blk_drew ?_ | refine blk_alloc ?_ _)); exact BK444.out)) : gb444 ≠ gb471)); have n16_ := Aside0.mk ((by rw [hg]; exact Nat.ne_of_gt (blk_lt (g := gb444) (o := .cells #[.slice A0_0 l0_0.length c0_0] 32 (0, 0)) (by (with_reducible repeat (first | refine blk_drewN ?_ _ | refine blk_drew ?_ | refine blk_alloc ?_ _)); exact BK444.out)) : gb471 ≠ gb444)); have n17_ := Aside0.mk ((by rw [hg]; exact Nat.ne_of_lt (blk_lt (g := gb445) (o := .cells #[.slice A1_0 l1_0.length c1_0] 32 (0, 0)) (by (with_reducible repeat (first | refine blk_drewN ?_ _ | refine blk_drew ?_ | refine blk_alloc ?_ _)); exact BK445.out)) : gb445 ≠ gb471)); have n18_ := Aside0.mk ((by rw [hg]; exact Nat.ne_of_gt (blk_lt (g := gb445) (o := .cells #[.slice A1_0 l1_0.length c1_0] 32 (0, 0)) (by (with_reducible repeat (first | refine blk_drewN ?_ _ | refine blk_drew ?_ | refine blk_alloc ?_ _)); exact BK445.out)) : gb471 ≠ gb445)); have n19_ := Aside0.mk ((by rw [hg]; exact Nat.ne_of_lt (blk_lt (g := gb458) (o := .cells #[.slice Ao41 t454.length co41] 24 (0, 0)) (by (with_reducible repeat (first | refine blk_drewN ?_ _ | refine blk_drew ?_ | refine blk_alloc ?_ _)); exact BK458.out)) : gb458 ≠ gb471)); have n20_ := Aside0.mk ((by rw [hg]; exact Nat.ne_of_gt (blk_lt (g := gb458) (o := .cells #[.slice Ao41 t454.length co41] 24 (0, 0)) (by (with_reducible repeat (first | refine blk_drewN ?_ _ | refine blk_drew ?_ | refine blk_alloc ?_ _)); exact BK458.out)) : gb471 ≠ gb458)); have n21_ := Aside0.mk ((by rw [hg]; exact Nat.ne_of_lt (blk_lt (g := gb462) (o := .cells #[.slice Ao47 t459.length co47] 24 (0, 0)) (by (with_reducible repeat (first | refine blk_drewN ?_ _ | refine blk_drew ?_ | refine blk_alloc ?_ _)); exact BK462.out)) : gb462 ≠ gb471)); have n22_ := Aside0.mk ((by rw [hg]; exact Nat.ne_of_gt (blk_lt (g := gb462) (o := .cells #[.slice Ao47 t459.length co47] 24 (0, 0)) (by (with_reducible repeat (first | refine blk_drewN ?_ _ | refine blk_drew ?_ | refine blk_alloc ?_ _)); exact BK462.out)) : gb471 ≠ gb462)); have n23_ := Aside0.mk ((by rw [hg]; exact Nat.ne_of_lt (blk_lt (g := gb466) (o := .cells #[.slice Ao56 t463.length co56] 24 (0, 0)) (by (with_reducible repeat (first | refine blk_drewN ?_ _ | refine blk_drew ?_ | refine blk_alloc ?_ _)); exact BK466.out)) : gb466 ≠ gb471)); have n24_ := Aside0.mk ((by rw [hg]; exact Nat.ne_of_gt (blk_lt (g := gb466) (o := .cells #[.slice Ao56 t463.length co56] 24 (0, 0)) (by (with_reducible repeat (first | refine blk_drewN ?_ _ | refine blk_drew ?_ | refine blk_alloc ?_ _)); exact BK466.out)) : gb471 ≠ gb466)); clear HO450; clear HO453; clear HO456; clear HO461; clear HO465; clear HO469; clear BK444; clear BK445; clear BK458; clear BK462; clear BK466; clear HB; have HO450 := n0_; have HO453 := n1_; have HO456 := n2_; have HO461 := n3_; have HO465 := n4_; have HO469 := n5_; have BK444 := n6_; have BK445 := n7_; have BK458 := n8_; have BK462 := n9_; have BK466 := n10_; have HB := n11_; have BK471 := n12_; have GW471 := n13_; have GE471 := n14_; have NB444_471 := n15_; have NB471_444 := n16_; have NB445_471 := n17_; have NB471_445 := n18_; have NB458_471 := n19_; have NB471_458 := n20_; have NB462_471 := n21_; have NB471_462 := n22_; have NB466_471 := n23_; have NB471_466 := n24_; clear n0_ n1_ n2_ n3_ n4_ n5_ n6_ n7_ n8_ n9_ n10_ n11_ n12_ n13_ n14_ n15_ n16_ n17_ n18_ n19_ n20_ n21_ n22_ n23_ n24_; clear hb hbox hg; obtain ⟨Ao65, co65, eo65⟩ := Kd.R_slice HO469.out; subst eo65; have hnb66 := NB471_444.out; have hnc66 := NB444_471.out; have hnb67 := NB471_445.out; have hnc67 := NB445_471.out; have hnb68 := NB471_458.out; have hnc68 := NB458_471.out; have hnb69 := NB471_462.out; have hnc69 := NB462_471.out; have hnb70 := NB471_466.out; have hnc70 := NB466_471.out; have hcz71_0 : w64.cell? ⟨gb471, 0, none⟩ = some (.slice none 0 0) := (blk_cell BK471.out 0).trans rfl; have hfz71_0 := blk_frozen BK471.out 0))
   (try simp only [Act.put, List.setIfInBounds_toArray, List.set_cons_zero, List.set_cons_succ])
   go_cut [53] (fun v53 wc => ∃ (kq : Nat) (x53_24 : Bool), v53 = .bool x53_24 ∧ Aside0 (laws_FnExactWithoutTrie.j0 kq t457 t470 x53_24 l0_0 l1_0 t454 t459 t463 t467 = some true) ∧ Aside0 (kq ≤ k) ∧ Aside0 (Kd.R k67 67 wc w.heap.size (fun k_ => some k_ ≠ ((.slice Ao47 t459.length co47) : Value).ownBlock ∧ some k_ ≠ ((.slice Ao56 t463.length co56) : Value).ownBlock ∧ some k_ ≠ ((.slice Ao65 t467.length co65) : Value).ownBlock) (.slice Ao41 t454.length co41) t454) ∧ Aside0 (Kd.R k67 67 wc w.heap.size (fun k_ => some k_ ≠ ((.slice Ao41 t454.length co41) : Value).ownBlock ∧ some k_ ≠ ((.slice Ao56 t463.length co56) : Value).ownBlock ∧ some k_ ≠ ((.slice Ao65 t467.length co65) : Value).ownBlock) (.slice Ao47 t459.length co47) t459) ∧ Aside0 (Kd.R k67 67 wc w.heap.size (fun k_ => some k_ ≠ ((.slice Ao41 t454.length co41) : Value).ownBlock ∧ some k_ ≠ ((.slice Ao47 t459.length co47) : Value).ownBlock ∧ some k_ ≠ ((.slice Ao65 t467.length co65) : Value).ownBlock) (.slice Ao56 t463.length co56) t463) ∧ Aside0 (Kd.R k67 67 wc w.heap.size (fun k_ => some k_ ≠ ((.slice Ao41 t454.length co41) : Value).ownBlock ∧ some k_ ≠ ((.slice Ao47 t459.length co47) : Value).ownBlock ∧ some k_ ≠ ((.slice Ao56 t463.length co56) : Value).ownBlock) (.slice Ao65 t467.length co65) t467) ∧ Aside0 (wc.heap[gb444]? = some (.cells #[(.slice A0_0 l0_0.length c0_0)] 32 (0, 0))) ∧ Aside0 (wc.heap[gb445]? = some (.cells #[(.slice A1_0 l1_0.length c1_0)] 32 (0, 0))) ∧ Aside0 (wc.heap[gb458]? = some (.cells #[(.slice Ao41 t454.length co41)] 24 (0, 0))) ∧ Aside0 (wc.heap[gb462]? = some (.cells #[(.slice Ao47 t459.length co47)] 24 (0, 0))) ∧ Aside0 (wc.heap[gb466]? = some (.cells #[(.slice Ao56 t463.length co56)] 24 (0, 0))) ∧ Aside0 (wc.heap[gb471]? = some (.cells #[(.slice Ao65 t467.length co65)] 24 (0, 0))) ∧ Aside0 (Below w.heap.size w wc))
   case first =>
    have H := HC25.out
    clear HC25
    replace H := Option.bind_eq_some_iff.mp H
    obtain ⟨t472, A720, H⟩ := H
    replace H : (if t472 = true then (laws_FnExactWithoutTrie.j0 k t457 t470 (t470 != t457) l0_0 l1_0 t454 t459 t463 t467) else (laws_FnExactWithoutTrie.j0 k t457 t470 true l0_0 l1_0 t454 t459 t463 t467)) = some true := H
    have A72 := Aside0.mk A720
    clear A720
    by_cases c73 : t472 = true
    ·subst c73
     have H1 : (laws_FnExactWithoutTrie.j0 k t457 t470 (t470 != t457) l0_0 l1_0 t454 t459 t463 t467) = some true := by rw [if_pos rfl] at H; exact H
     clear H
     have H := H1
     clear H1
     have H' := Aside0.mk H
     clear H
     have hnb74 := NB471_444.out
     have hnc74 := NB444_471.out
     have hnb75 := NB471_445.out
     have hnc75 := NB445_471.out
     have hnb76 := NB471_458.out
     have hnc76 := NB458_471.out
     have hnb77 := NB471_462.out
     have hnc77 := NB462_471.out
     have hnb78 := NB471_466.out
     have hnc78 := NB466_471.out
     have hcz79_0 : w64.cell? ⟨gb471, 0, none⟩ = some (.slice none 0 0) := (blk_cell BK471.out 0).trans rfl
     have hfz79_0 := blk_frozen BK471.out 0
     have hnb80 := NB458_444.out
     have hnc80 := NB444_458.out
     have hnb81 := NB458_445.out
     have hnc81 := NB445_458.out
     have hnb82 := NB458_462.out
     have hnc82 := NB462_458.out
     have hnb83 := NB458_466.out
     have hnc83 := NB466_458.out
     have hcz84_0 : w64.cell? ⟨gb458, 0, none⟩ = some (.slice Ao41 t454.length co41) := (blk_cell BK458.out 0).trans rfl
     have hfz84_0 := blk_frozen BK458.out 0
     go_wp2_with (first | ((with_reducible refine gate_callee (f := 9) rfl ?_); refine goesL_ (some 47) rfl rfl Try.func9 (by kernel_rfl) rfl #[.agg #[.slice Ao65 t467.length co65], .agg #[.slice Ao41 t454.length co41]] rfl (by (try simp only [List.map_toArray, List.map_cons, List.map_nil]); first | done | rfl | (simp only [List.length_drop, List.length_take]; rfl)) ?_; (with_reducible refine (laws_eqTrie.calls k _ _ t467 _ _ t454 true _ ?side1 ?side2 ?side3 ?side4 A72.out).mono ?_); (case side1 => refine (Kd.R_reads' (e := 67) (base := w.heap.size) (ok := fun k_ => (((((True ∧ some k_ ≠ (v449 : Value).ownBlock) ∧ some k_ ≠ (v452 : Value).ownBlock) ∧ some k_ ≠ (.slice Ao41 t454.length co41 : Value).ownBlock) ∧ some k_ ≠ (.slice Ao47 t459.length co47 : Value).ownBlock) ∧ some k_ ≠ (.slice Ao56 t463.length co56 : Value).ownBlock)) (n := t467.length) (c := co65) ?_).2.2; exact (by (with_reducible repeat (first | apply Kd.R_alloc | apply Kd.R_drewN | apply Kd.R_drew)); exact (Kd.R_mono (R_same_ (Kd.R_far (p := ⟨gb471, 0, none⟩) (Kd.R_types HO469.out BK471.out (by decide)) (fun _ hk => hk.2) (.slice Ao65 t467.length co65)) rfl) (fun _ h_ => h_.1)))); (case side2 => exact (Kd.R_reads' HO469.out).2.1); (case side3 => refine (Kd.R_reads' (e := 67) (base := w.heap.size) (ok := fun k_ => ((((some k_ ≠ (v449 : Value).ownBlock ∧ some k_ ≠ (v452 : Value).ownBlock) ∧ some k_ ≠ (.slice Ao47 t459.length co47 : Value).ownBlock) ∧ some k_ ≠ (.slice Ao56 t463.length co56 : Value).ownBlock) ∧ some k_ ≠ (.slice Ao65 t467.length co65 : Value).ownBlock)) (n := t454.length) (c := co41) ?_).2.2; exact (by (with_reducible repeat (first | apply Kd.R_alloc | apply Kd.R_drewN | apply Kd.R_drew)); exact (Kd.R_mono (R_same_ (Kd.R_far (p := ⟨gb471, 0, none⟩) (Kd.R_types HO456.out BK471.out (by decide)) (fun _ hk => hk.2) (.slice Ao65 t467.length co65)) rfl) (fun _ h_ => h_.1)))); (case side4 => exact (Kd.R_reads' HO456.out).2.1); rintro e w85 ⟨rfl, hb⟩; refine ⟨_, rfl, ?_⟩; have n0_ := Aside0.mk (Kd.R_below (by (with_reducible repeat (first | apply Kd.R_alloc | apply Kd.R_drewN | apply Kd.R_drew)); exact (Kd.R_mono (R_same_ (Kd.R_far (p := ⟨gb471, 0, none⟩) (Kd.R_types HO450.out BK471.out (by decide)) (fun _ hk => hk.2) (.slice Ao65 t467.length co65)) rfl) (fun _ h_ => h_.1))) hb); have n1_ := Aside0.mk (Kd.R_below (by (with_reducible repeat (first | apply Kd.R_alloc | apply Kd.R_drewN | apply Kd.R_drew)); exact (Kd.R_mono (R_same_ (Kd.R_far (p := ⟨gb471, 0, none⟩) (Kd.R_types HO453.out BK471.out (by decide)) (fun _ hk => hk.2) (.slice Ao65 t467.length co65)) rfl) (fun _ h_ => h_.1))) hb); have n2_ := Aside0.mk (Kd.R_below (by (with_reducible repeat (first | apply Kd.R_alloc | apply Kd.R_drewN | apply Kd.R_drew)); exact (Kd.R_mono (R_same_ (Kd.R_far (p := ⟨gb471, 0, none⟩) (Kd.R_types HO456.out BK471.out (by decide)) (fun _ hk => hk.2) (.slice Ao65 t467.length co65)) rfl) (fun _ h_ => h_.1))) hb); have n3_ := Aside0.mk (Kd.R_below (by (with_reducible repeat (first | apply Kd.R_alloc | apply Kd.R_drewN | apply Kd.R_drew)); exact (Kd.R_mono (R_same_ (Kd.R_far (p := ⟨gb471, 0, none⟩) (Kd.R_types HO461.out BK471.out (by decide)) (fun _ hk => hk.2) (.slice Ao65 t467.length co65)) rfl) (fun _ h_ => h_.1))) hb); have n4_ := Aside0.mk (Kd.R_below (by (with_reducible repeat (first | apply Kd.R_alloc | apply Kd.R_drewN | apply Kd.R_drew)); exact (Kd.R_mono (R_same_ (Kd.R_far (p := ⟨gb471, 0, none⟩) (Kd.R_types HO465.out BK471.out (by decide)) (fun _ hk => hk.2) (.slice Ao65 t467.length co65)) rfl) (fun _ h_ => h_.1))) hb); have n5_ := Aside0.mk (Kd.R_below (by (with_reducible repeat (first | apply Kd.R_alloc | apply Kd.R_drewN | apply Kd.R_drew)); exact (Kd.R_mono (R_same_ (Kd.R_far (p := ⟨gb471, 0, none⟩) (Kd.R_types HO469.out BK471.out (by decide)) (fun _ hk => hk.2) (.slice Ao65 t467.length co65)) rfl) (fun _ h_ => h_.1))) hb); have n6_ := Aside0.mk (blk_below (g := gb444) (o := .cells #[.slice A0_0 l0_0.length c0_0] 32 (0, 0)) (by (with_reducible repeat (first | refine blk_drewN ?_ _ | refine blk_drew ?_ | refine blk_alloc ?_ _)); refine blk_far ?_ NB444_471.out _; (with_reducible repeat (first | refine blk_drewN ?_ _ | refine blk_drew ?_ | refine blk_alloc ?_ _)); exact BK444.out) hb); have n7_ := Aside0.mk (blk_below (g := gb445) (o := .cells #[.slice A1_0 l1_0.length c1_0] 32 (0, 0)) (by (with_reducible repeat (first | refine blk_drewN ?_ _ | refine blk_drew ?_ | refine blk_alloc ?_ _)); refine blk_far ?_ NB445_471.out _; (with_reducible repeat (first | refine blk_drewN ?_ _ | refine blk_drew ?_ | refine blk_alloc ?_ _)); exact BK445.out) hb); have n8_ := Aside0.mk (blk_below (g := gb458) (o := .cells #[.slice Ao41 t454.length co41] 24 (0, 0)) (by (with_reducible repeat (first | refine blk_drewN ?_ _ | refine blk_drew ?_ | refine blk_alloc ?_ _)); refine blk_far ?_ NB458_471.out _; (with_reducible repeat (first | refine blk_drewN ?_ _ | refine blk_drew ?_ | refine blk_alloc ?_ _)); exact BK458.out) hb); have n9_ := Aside0.mk (blk_below (g := gb462) (o := .cells #[.slice Ao47 t459.length co47] 24 (0, 0)) (by (with_reducible repeat (first | refine blk_drewN ?_ _ | refine blk_drew ?_ | refine blk_alloc ?_ _)); refine blk_far ?_ NB462_471.out _; (with_reducible repeat (first | refine blk_drewN ?_ _ | refine blk_drew ?_ | refine blk_alloc ?_ _)); exact BK462.out) hb); have n10_ := Aside0.mk (blk_below (g := gb466) (o := .cells #[.slice Ao56 t463.length co56] 24 (0, 0)) (by (with_reducible repeat (first | refine blk_drewN ?_ _ | refine blk_drew ?_ | refine blk_alloc ?_ _)); refine blk_far ?_ NB466_471.out _; (with_reducible repeat (first | refine blk_drewN ?_ _ | refine blk_drew ?_ | refine blk_alloc ?_ _)); exact BK466.out) hb); have n11_ := Aside0.mk (blk_below (g := gb471) (o := .cells #[.slice Ao65 t467.length co65] 24 (0, 0)) (by (with_reducible repeat (first | refine blk_drewN ?_ _ | refine blk_drew ?_ | refine blk_alloc ?_ _)); refine blk_put (cs := #[.slice none 0 0]) ?_ 0 _ rfl; (with_reducible repeat (first | refine blk_drewN ?_ _ | refine blk_drew ?_ | refine blk_alloc ?_ _)); exact BK471.out) hb); have n12_ := Aside0.mk (below_step (by repeat (first | (with_reducible first | exact HB.out | apply below_alloc | apply pw_below_drewN | apply below_drew1 | refine below_set ?_ GE444.out | refine below_set ?_ GE445.out | refine below_set ?_ GE458.out | refine below_set ?_ GE462.out | refine below_set ?_ GE466.out | refine below_set ?_ GE471.out) | exact HB.out)) hb); clear HO450; clear HO453; clear HO456; clear HO461; clear HO465; clear HO469; clear BK444; clear BK445; clear BK458; clear BK462; clear BK466; clear BK471; clear HB; have HO450 := n0_; have HO453 := n1_; have HO456 := n2_; have HO461 := n3_; have HO465 := n4_; have HO469 := n5_; have BK444 := n6_; have BK445 := n7_; have BK458 := n8_; have BK462 := n9_; have BK466 := n10_; have BK471 := n11_; have HB := n12_; clear n0_ n1_ n2_ n3_ n4_ n5_ n6_ n7_ n8_ n9_ n10_ n11_ n12_; (try clear hb); (try clear hb2); (try clear hk); (try clear hi)))
     go_meet
     case rel => exact ⟨_, ((t470 != t457)), (by first | rfl | (simp; done) | (simp [*]; done)), H', ⟨by first | omega | exact Nat.le_refl _⟩, ⟨by (with_reducible repeat (first | apply Kd.R_alloc | apply Kd.R_drewN | apply Kd.R_drew)); exact Kd.R_mono HO456.out (fun _ hk => ⟨hk.1.1.2, ⟨hk.1.2, hk.2⟩⟩)⟩, ⟨by (with_reducible repeat (first | apply Kd.R_alloc | apply Kd.R_drewN | apply Kd.R_drew)); exact Kd.R_mono HO461.out (fun _ hk => ⟨hk.1.1.2, ⟨hk.1.2, hk.2⟩⟩)⟩, ⟨by (with_reducible repeat (first | apply Kd.R_alloc | apply Kd.R_drewN | apply Kd.R_drew)); exact Kd.R_mono HO465.out (fun _ hk => ⟨hk.1.1.2, ⟨hk.1.2, hk.2⟩⟩)⟩, ⟨by (with_reducible repeat (first | apply Kd.R_alloc | apply Kd.R_drewN | apply Kd.R_drew)); exact Kd.R_mono HO469.out (fun _ hk => ⟨hk.1.1.2, ⟨hk.1.2, hk.2⟩⟩)⟩, ⟨by (with_reducible repeat (first | refine blk_drewN ?_ _ | refine blk_drew ?_ | refine blk_alloc ?_ _)); exact BK444.out⟩, ⟨by (with_reducible repeat (first | refine blk_drewN ?_ _ | refine blk_drew ?_ | refine blk_alloc ?_ _)); exact BK445.out⟩, ⟨by (with_reducible repeat (first | refine blk_drewN ?_ _ | refine blk_drew ?_ | refine blk_alloc ?_ _)); exact BK458.out⟩, ⟨by (with_reducible repeat (first | refine blk_drewN ?_ _ | refine blk_drew ?_ | refine blk_alloc ?_ _)); exact BK462.out⟩, ⟨by (with_reducible repeat (first | refine blk_drewN ?_ _ | refine blk_drew ?_ | refine blk_alloc ?_ _)); exact BK466.out⟩, ⟨by (with_reducible repeat (first | refine blk_drewN ?_ _ | refine blk_drew ?_ | refine blk_alloc ?_ _)); exact BK471.out⟩, ⟨by repeat (first | (with_reducible first | exact HB.out | apply below_alloc | apply pw_below_drewN | apply below_drew1 | refine below_set ?_ GE444.out | refine below_set ?_ GE445.out | refine below_set ?_ GE458.out | refine below_set ?_ GE462.out | refine below_set ?_ GE466.out | refine below_set ?_ GE471.out) | exact HB.out)⟩⟩
    ·replace c73 := Bool.eq_false_iff.mpr c73
     subst c73
     have H1 : (laws_FnExactWithoutTrie.j0 k t457 t470 true l0_0 l1_0 t454 t459 t463 t467) = some true := by rw [if_neg (show ¬ (false = true) by decide)] at H; exact H
     exact absurd H1 (by cases k <;> simp [laws_FnExactWithoutTrie.j0])
   case rest =>
    clear HC25
    try clear c1
    try clear p2
    try clear c4
    try clear c5
    try clear c6
    try clear c7
    try clear c8
    try clear c9
    try clear c14
    try clear c16
    try clear c17
    try clear c43
    try clear c48
    try clear c49
    try clear c50
    try clear c52
    try clear c57
    try clear c58
    try clear c59
    try clear c60
    try clear c66
    try clear c67
    try clear c68
    try clear c69
    try clear c70
    try clear c73
    try clear c74
    try clear c75
    try clear c76
    try clear c77
    try clear c78
    try clear c80
    try clear c81
    try clear c82
    try clear c83
    try clear c86
    try clear c87
    try clear c88
    try clear c89
    try clear c90
    try clear c92
    try clear c93
    try clear c94
    try clear c95
    try clear hcz44_0
    try clear hcz51_0
    try clear hcz53_0
    try clear hcz61_0
    try clear hcz62_0
    try clear hcz71_0
    try clear hcz79_0
    try clear hcz84_0
    try clear hcz91_0
    try clear hcz96_0
    try clear hfz44_0
    try clear hfz51_0
    try clear hfz53_0
    try clear hfz61_0
    try clear hfz62_0
    try clear hfz71_0
    try clear hfz79_0
    try clear hfz84_0
    try clear hfz91_0
    try clear hfz96_0
    obtain ⟨kq, x53_24, rfl, HA, HJ24, HO_459000, HO_463000, HO_467000, HO_472000, BK444, BK445, BK458, BK462, BK466, BK471, HB⟩ := hcut
    cases kq with
    | zero => exact absurd HA.out (by simp [laws_FnExactWithoutTrie.j0])
    | succ kj24 =>
     have H := HA.out
     clear HA
     simp only [laws_FnExactWithoutTrie.j0] at H
     by_cases c98 : x53_24 = true
     ·subst c98
      have H1 : (some false) = some true := by rw [if_pos rfl] at H; exact H
      exact absurd H1 (by simp)
     ·replace c98 := Bool.eq_false_iff.mpr c98
      subst c98
      have H1 : ((laws_toTrie.f kj24 l0_0).bind fun t473 => ((laws_eqTrie.f kj24 t459 t473).bind fun t476 => (if t476 = true then ((laws_toTrie.f kj24 l1_0).bind fun t477 => ((laws_eqTrie.f kj24 t463 t477).bind fun t480 => (if t480 = true then ((laws_markTrie.f kj24 t459 1).bind fun bt481 => ((laws_markTrie.f kj24 t463 bt481.1).bind fun bt483 => (if bt483.1 < 0 then (laws_FnExactWithoutTrie.j1 kj24 t457 true l0_0 l1_0 t454 t467) else ((laws_eqTrie.f kj24 t467 t454).bind fun t485 => (if t485 = true then (laws_FnExactWithoutTrie.j1 kj24 t457 (t470 != t457) l0_0 l1_0 t454 t467) else (laws_FnExactWithoutTrie.j1 kj24 t457 true l0_0 l1_0 t454 t467)))))) else (some false)))) else (some false)))) = some true := by rw [if_neg (show ¬ (false = true) by decide)] at H; exact H
      clear H
      have H := H1
      clear H1
      replace H := Option.bind_eq_some_iff.mp H
      obtain ⟨t473, A990, H⟩ := H
      replace H : ((laws_eqTrie.f kj24 t459 t473).bind fun t476 => (if t476 = true then ((laws_toTrie.f kj24 l1_0).bind fun t477 => ((laws_eqTrie.f kj24 t463 t477).bind fun t480 => (if t480 = true then ((laws_markTrie.f kj24 t459 1).bind fun bt481 => ((laws_markTrie.f kj24 t463 bt481.1).bind fun bt483 => (if bt483.1 < 0 then (laws_FnExactWithoutTrie.j1 kj24 t457 true l0_0 l1_0 t454 t467) else ((laws_eqTrie.f kj24 t467 t454).bind fun t485 => (if t485 = true then (laws_FnExactWithoutTrie.j1 kj24 t457 (t470 != t457) l0_0 l1_0 t454 t467) else (laws_FnExactWithoutTrie.j1 kj24 t457 true l0_0 l1_0 t454 t467)))))) else (some false)))) else (some false))) = some true := H
      have A99 := Aside0.mk A990
      clear A990
      replace H := Option.bind_eq_some_iff.mp H
      obtain ⟨t476, A1000, H⟩ := H
      replace H : (if t476 = true then ((laws_toTrie.f kj24 l1_0).bind fun t477 => ((laws_eqTrie.f kj24 t463 t477).bind fun t480 => (if t480 = true then ((laws_markTrie.f kj24 t459 1).bind fun bt481 => ((laws_markTrie.f kj24 t463 bt481.1).bind fun bt483 => (if bt483.1 < 0 then (laws_FnExactWithoutTrie.j1 kj24 t457 true l0_0 l1_0 t454 t467) else ((laws_eqTrie.f kj24 t467 t454).bind fun t485 => (if t485 = true then (laws_FnExactWithoutTrie.j1 kj24 t457 (t470 != t457) l0_0 l1_0 t454 t467) else (laws_FnExactWithoutTrie.j1 kj24 t457 true l0_0 l1_0 t454 t467)))))) else (some false)))) else (some false)) = some true := H
      have A100 := Aside0.mk A1000
      clear A1000
      by_cases c101 : t476 = true
      ·subst c101
       have H1 : ((laws_toTrie.f kj24 l1_0).bind fun t477 => ((laws_eqTrie.f kj24 t463 t477).bind fun t480 => (if t480 = true then ((laws_markTrie.f kj24 t459 1).bind fun bt481 => ((laws_markTrie.f kj24 t463 bt481.1).bind fun bt483 => (if bt483.1 < 0 then (laws_FnExactWithoutTrie.j1 kj24 t457 true l0_0 l1_0 t454 t467) else ((laws_eqTrie.f kj24 t467 t454).bind fun t485 => (if t485 = true then (laws_FnExactWithoutTrie.j1 kj24 t457 (t470 != t457) l0_0 l1_0 t454 t467) else (laws_FnExactWithoutTrie.j1 kj24 t457 true l0_0 l1_0 t454 t467)))))) else (some false)))) = some true := by rw [if_pos rfl] at H; exact H
       clear H
       have H := H1
       clear H1
       replace H := Option.bind_eq_some_iff.mp H
       obtain ⟨t477, A1020, H⟩ := H
       replace H : ((laws_eqTrie.f kj24 t463 t477).bind fun t480 => (if t480 = true then ((laws_markTrie.f kj24 t459 1).bind fun bt481 => ((laws_markTrie.f kj24 t463 bt481.1).bind fun bt483 => (if bt483.1 < 0 then (laws_FnExactWithoutTrie.j1 kj24 t457 true l0_0 l1_0 t454 t467) else ((laws_eqTrie.f kj24 t467 t454).bind fun t485 => (if t485 = true then (laws_FnExactWithoutTrie.j1 kj24 t457 (t470 != t457) l0_0 l1_0 t454 t467) else (laws_FnExactWithoutTrie.j1 kj24 t457 true l0_0 l1_0 t454 t467)))))) else (some false))) = some true := H
       have A102 := Aside0.mk A1020
       clear A1020
       replace H := Option.bind_eq_some_iff.mp H
       obtain ⟨t480, A1030, H⟩ := H
       replace H : (if t480 = true then ((laws_markTrie.f kj24 t459 1).bind fun bt481 => ((laws_markTrie.f kj24 t463 bt481.1).bind fun bt483 => (if bt483.1 < 0 then (laws_FnExactWithoutTrie.j1 kj24 t457 true l0_0 l1_0 t454 t467) else ((laws_eqTrie.f kj24 t467 t454).bind fun t485 => (if t485 = true then (laws_FnExactWithoutTrie.j1 kj24 t457 (t470 != t457) l0_0 l1_0 t454 t467) else (laws_FnExactWithoutTrie.j1 kj24 t457 true l0_0 l1_0 t454 t467)))))) else (some false)) = some true := H
       have A103 := Aside0.mk A1030
       clear A1030
       by_cases c104 : t480 = true
       ·subst c104
        have H1 : ((laws_markTrie.f kj24 t459 1).bind fun bt481 => ((laws_markTrie.f kj24 t463 bt481.1).bind fun bt483 => (if bt483.1 < 0 then (laws_FnExactWithoutTrie.j1 kj24 t457 true l0_0 l1_0 t454 t467) else ((laws_eqTrie.f kj24 t467 t454).bind fun t485 => (if t485 = true then (laws_FnExactWithoutTrie.j1 kj24 t457 (t470 != t457) l0_0 l1_0 t454 t467) else (laws_FnExactWithoutTrie.j1 kj24 t457 true l0_0 l1_0 t454 t467)))))) = some true := by rw [if_pos rfl] at H; exact H
        clear H
        have H := H1
        clear H1
        replace H := Option.bind_eq_some_iff.mp H
        obtain ⟨⟨t481, t482⟩, A1050, H⟩ := H
        replace H : ((laws_markTrie.f kj24 t463 t481).bind fun bt483 => (if bt483.1 < 0 then (laws_FnExactWithoutTrie.j1 kj24 t457 true l0_0 l1_0 t454 t467) else ((laws_eqTrie.f kj24 t467 t454).bind fun t485 => (if t485 = true then (laws_FnExactWithoutTrie.j1 kj24 t457 (t470 != t457) l0_0 l1_0 t454 t467) else (laws_FnExactWithoutTrie.j1 kj24 t457 true l0_0 l1_0 t454 t467))))) = some true := H
        have A105 := Aside0.mk A1050
        clear A1050
        replace H := Option.bind_eq_some_iff.mp H
        obtain ⟨⟨t483, t484⟩, A1060, H⟩ := H
        replace H : (if t483 < 0 then (laws_FnExactWithoutTrie.j1 kj24 t457 true l0_0 l1_0 t454 t467) else ((laws_eqTrie.f kj24 t467 t454).bind fun t485 => (if t485 = true then (laws_FnExactWithoutTrie.j1 kj24 t457 (t470 != t457) l0_0 l1_0 t454 t467) else (laws_FnExactWithoutTrie.j1 kj24 t457 true l0_0 l1_0 t454 t467)))) = some true := H
        have A106 := Aside0.mk A1060
        clear A1060
        have HC107 := Aside0.mk H
        clear H
        try go_wp2
        have n0_ := Aside0.mk (Kd.R_drew HO_459000.out)
        have n1_ := Aside0.mk (Kd.R_drew HO_463000.out)
        have n2_ := Aside0.mk (Kd.R_drew HO_467000.out)
        have n3_ := Aside0.mk (Kd.R_drew HO_472000.out)
        have n4_ := Aside0.mk (blk_drew BK444.out)
        have n5_ := Aside0.mk (blk_drew BK445.out)
        have n6_ := Aside0.mk (blk_drew BK458.out)
        have n7_ := Aside0.mk (blk_drew BK462.out)
        have n8_ := Aside0.mk (blk_drew BK466.out)
        have n9_ := Aside0.mk (blk_drew BK471.out)
        have n10_ := Aside0.mk (below_drew1 HB.out)
        revert n0_ n1_ n2_ n3_ n4_ n5_ n6_ n7_ n8_ n9_ n10_
        clear HO_459000 HO_463000 HO_467000 HO_472000 BK444 BK445 BK458 BK462 BK466 BK471 HB
        intro HO_459000 HO_463000 HO_467000 HO_472000 BK444 BK445 BK458 BK462 BK466 BK471 HB
        refine start_ (n := 5) (S := fun w' => w'.cell? ⟨gb462, 0, none⟩ = some (.slice Ao47 t459.length co47) ∧ w'.cell? ⟨gb444, 0, none⟩ = some (.slice A0_0 l0_0.length c0_0)) (ds := []) #[false, false, false, false, false] (by kernel_rfl) rfl rfl ⟨(blk_cell BK462.out 0).trans rfl, (blk_cell BK444.out 0).trans rfl⟩ (fun hHeld => ?_)
        generalize wc.drew = w108 at HO_459000 HO_463000 HO_467000 HO_472000 BK444 BK445 BK458 BK462 BK466 BK471 HB hHeld ⊢
        refine take_ (i := 0) (N := some 54) (v := ?_) (a' := ?_) #[true, false, false, false, false] rfl rfl (by kernel_rfl) (fun _ _ _ h => h) (Or.inl ⟨by rfl, ?_⟩) hHeld ?_ ?_
        rotate_left
        ·rintro w' ⟨s0, s1⟩
         go_simp
         with_reducible rfl
        rotate_left
        ·simp only [Act.put, List.setIfInBounds_toArray, List.set_cons_zero, List.set_cons_succ, i64_w, i32_w]
         rfl
        refine take_ (i := 1) (N := some 55) (v := ?_) (a' := ?_) #[true, true, false, false, false] rfl rfl (by kernel_rfl) (fun _ _ _ h => h) (Or.inl ⟨by rfl, ?_⟩) hHeld ?_ ?_
        rotate_left
        ·rintro w' ⟨s0, s1⟩
         go_simp
         with_reducible rfl
        rotate_left
        ·simp only [Act.put, List.setIfInBounds_toArray, List.set_cons_zero, List.set_cons_succ, i64_w, i32_w]
         rfl
        refine one_ (i := 2) (N := some 56) #[true, true, true, false, false] rfl rfl (by kernel_rfl) (by decide) (fun K hK => ?_)
        refine goes_ Try.func14 (by kernel_rfl) rfl #[.agg #[.slice A0_0 l0_0.length c0_0]] (by rfl) rfl rfl (by (try simp only [List.map_toArray, List.map_cons, List.map_nil]); first | done | rfl | (simp only [List.length_drop, List.length_take]; rfl)) ?_
        with_reducible refine (laws_toTrie.calls kj24 _ _ l0_0 t473 _ ?side1 ?side2 A99.out).mono ?_
        (case side1 => exact (Kd.C_below HR0_0.out HB.out))
        (case side2 => exact HC0_0.out)
        rintro e w109 ⟨v474, rfl, ho0, hb⟩
        refine ⟨_, rfl, ?_⟩
        have n0_ := Aside0.mk (Kd.R_elder' HO_459000.out (Kd.R_base ho0) hb)
        have n1_ := Aside0.mk (Kd.R_elder' HO_463000.out (Kd.R_base ho0) hb)
        have n2_ := Aside0.mk (Kd.R_elder' HO_467000.out (Kd.R_base ho0) hb)
        have n3_ := Aside0.mk (Kd.R_elder' HO_472000.out (Kd.R_base ho0) hb)
        have n4_ := Aside0.mk (Kd.R_lower (Kd.R_new' (Kd.R_new' (Kd.R_new' (Kd.R_new' ho0 (Kd.R_lt HO_459000.out)) (Kd.R_lt HO_463000.out)) (Kd.R_lt HO_467000.out)) (Kd.R_lt HO_472000.out)) (below_size HB.out))
        have n5_ := Aside0.mk (blk_below BK444.out hb)
        have n6_ := Aside0.mk (blk_below BK445.out hb)
        have n7_ := Aside0.mk (blk_below BK458.out hb)
        have n8_ := Aside0.mk (blk_below BK462.out hb)
        have n9_ := Aside0.mk (blk_below BK466.out hb)
        have n10_ := Aside0.mk (blk_below BK471.out hb)
        have n11_ := Aside0.mk (below_step HB.out hb)
        revert n0_ n1_ n2_ n3_ n4_ n5_ n6_ n7_ n8_ n9_ n10_ n11_
        clear HO_459000 HO_463000 HO_467000 HO_472000 BK444 BK445 BK458 BK462 BK466 BK471 HB
        intro HO_459000 HO_463000 HO_467000 HO_472000 HO475 BK444 BK445 BK458 BK462 BK466 BK471 HB
        (try clear hb)
        (try clear hb2)
        (try clear hk)
        (try clear hi)
        (try clear ho0)
        obtain ⟨Ao110, co110, eo110⟩ := Kd.R_slice HO475.out
        (first | subst eo110 | (injection eo110 with f1_ f2_ f3_; have f4_ := f1_.symm; have f5_ := f3_.symm; clear f1_ f2_ f3_; subst f4_; subst f5_))
        refine hK.out _ _ ⟨(blk_cell BK462.out 0).trans rfl, (blk_cell BK444.out 0).trans rfl⟩ (fun hHeld => ?_)
        clear hK K
        refine norm_ (a' := ?_) ?_ ?_
        rotate_left
        ·show Act.put _ (some 56) _ = _
         simp only [Act.put, List.setIfInBounds_toArray, List.set_cons_zero, List.set_cons_succ, i64_w, i32_w]
         rfl
        refine one_ (i := 3) (N := some 57) #[true, true, true, true, false] rfl rfl (by kernel_rfl) (by decide) (fun K hK => ?_)
        refine goes_ Try.func9 (by kernel_rfl) rfl #[.agg #[.slice Ao47 t459.length co47], .agg #[.slice Ao110 t473.length co110]] (by rfl) rfl rfl (by (try simp only [List.map_toArray, List.map_cons, List.map_nil]); first | done | rfl | (simp only [List.length_drop, List.length_take]; rfl)) ?_
        with_reducible refine (laws_eqTrie.calls kj24 _ _ t459 _ _ t473 true _ ?side1 ?side2 ?side3 ?side4 A100.out).mono ?_
        (case side1 => exact (Kd.R_reads' HO_463000.out).2.2)
        (case side2 => exact (Kd.R_reads' HO_463000.out).2.1)
        (case side3 => exact (Kd.R_reads' HO475.out).2.2)
        (case side4 => exact (Kd.R_reads' HO475.out).2.1)
        rintro e w111 ⟨rfl, hb⟩
        refine ⟨_, rfl, ?_⟩
        have n0_ := Aside0.mk (Kd.R_below HO_459000.out hb)
        have n1_ := Aside0.mk (Kd.R_below HO_463000.out hb)
        have n2_ := Aside0.mk (Kd.R_below HO_467000.out hb)
        have n3_ := Aside0.mk (Kd.R_below HO_472000.out hb)
        have n4_ := Aside0.mk (Kd.R_below HO475.out hb)
        have n5_ := Aside0.mk (blk_below BK444.out hb)
        have n6_ := Aside0.mk (blk_below BK445.out hb)
        have n7_ := Aside0.mk (blk_below BK458.out hb)
        have n8_ := Aside0.mk (blk_below BK462.out hb)
        have n9_ := Aside0.mk (blk_below BK466.out hb)
        have n10_ := Aside0.mk (blk_below BK471.out hb)
        have n11_ := Aside0.mk (below_step HB.out hb)
        revert n0_ n1_ n2_ n3_ n4_ n5_ n6_ n7_ n8_ n9_ n10_ n11_
        clear HO_459000 HO_463000 HO_467000 HO_472000 HO475 BK444 BK445 BK458 BK462 BK466 BK471 HB
        intro HO_459000 HO_463000 HO_467000 HO_472000 HO475 BK444 BK445 BK458 BK462 BK466 BK471 HB
        (try clear hb)
        (try clear hb2)
        (try clear hk)
        (try clear hi)
        refine hK.out _ _ ⟨(blk_cell BK462.out 0).trans rfl, (blk_cell BK444.out 0).trans rfl⟩ (fun hHeld => ?_)
        clear hK K
        refine norm_ (a' := ?_) ?_ ?_
        rotate_left
        ·show Act.put _ (some 57) _ = _
         simp only [Act.put, List.setIfInBounds_toArray, List.set_cons_zero, List.set_cons_succ, i64_w, i32_w]
         rfl
        refine pure_ (i := 4) (N := some 58) (v := ?_) (a' := ?_) #[true, true, true, true, true] rfl rfl (by kernel_rfl) (fun _ _ _ h => h) (Or.inl ⟨by rfl, ?_⟩) ?_ ?_
        rotate_left
        ·intro w'
         go_simp
         with_reducible rfl
        rotate_left
        ·simp only [Act.put, List.setIfInBounds_toArray, List.set_cons_zero, List.set_cons_succ, i64_w, i32_w]
         rfl
        refine done_ (by kernel_rfl) ?_
        try go_wp2
        have n0_ := Aside0.mk (Kd.R_drew HO_459000.out)
        have n1_ := Aside0.mk (Kd.R_drew HO_463000.out)
        have n2_ := Aside0.mk (Kd.R_drew HO_467000.out)
        have n3_ := Aside0.mk (Kd.R_drew HO_472000.out)
        have n4_ := Aside0.mk (Kd.R_drew HO475.out)
        have n5_ := Aside0.mk (blk_drew BK444.out)
        have n6_ := Aside0.mk (blk_drew BK445.out)
        have n7_ := Aside0.mk (blk_drew BK458.out)
        have n8_ := Aside0.mk (blk_drew BK462.out)
        have n9_ := Aside0.mk (blk_drew BK466.out)
        have n10_ := Aside0.mk (blk_drew BK471.out)
        have n11_ := Aside0.mk (below_drew1 HB.out)
        revert n0_ n1_ n2_ n3_ n4_ n5_ n6_ n7_ n8_ n9_ n10_ n11_
        clear HO_459000 HO_463000 HO_467000 HO_472000 HO475 BK444 BK445 BK458 BK462 BK466 BK471 HB
        intro HO_459000 HO_463000 HO_467000 HO_472000 HO475 BK444 BK445 BK458 BK462 BK466 BK471 HB
        refine start_ (n := 5) (S := fun w' => w'.cell? ⟨gb466, 0, none⟩ = some (.slice Ao56 t463.length co56) ∧ w'.cell? ⟨gb445, 0, none⟩ = some (.slice A1_0 l1_0.length c1_0)) (ds := []) #[false, false, false, false, false] (by kernel_rfl) rfl rfl ⟨(blk_cell BK466.out 0).trans rfl, (blk_cell BK445.out 0).trans rfl⟩ (fun hHeld => ?_)
        generalize w111.drew = w112 at HO_459000 HO_463000 HO_467000 HO_472000 HO475 BK444 BK445 BK458 BK462 BK466 BK471 HB hHeld ⊢
        refine take_ (i := 0) (N := some 59) (v := ?_) (a' := ?_) #[true, false, false, false, false] rfl rfl (by kernel_rfl) (fun _ _ _ h => h) (Or.inl ⟨by rfl, ?_⟩) hHeld ?_ ?_
        rotate_left
        ·rintro w' ⟨s0, s1⟩
         go_simp
         with_reducible rfl
        rotate_left
        ·simp only [Act.put, List.setIfInBounds_toArray, List.set_cons_zero, List.set_cons_succ, i64_w, i32_w]
         rfl
        refine take_ (i := 1) (N := some 60) (v := ?_) (a' := ?_) #[true, true, false, false, false] rfl rfl (by kernel_rfl) (fun _ _ _ h => h) (Or.inl ⟨by rfl, ?_⟩) hHeld ?_ ?_
        rotate_left
        ·rintro w' ⟨s0, s1⟩
         go_simp
         with_reducible rfl
        rotate_left
        ·simp only [Act.put, List.setIfInBounds_toArray, List.set_cons_zero, List.set_cons_succ, i64_w, i32_w]
         rfl
        refine one_ (i := 2) (N := some 61) #[true, true, true, false, false] rfl rfl (by kernel_rfl) (by decide) (fun K hK => ?_)
        refine goes_ Try.func14 (by kernel_rfl) rfl #[.agg #[.slice A1_0 l1_0.length c1_0]] (by rfl) rfl rfl (by (try simp only [List.map_toArray, List.map_cons, List.map_nil]); first | done | rfl | (simp only [List.length_drop, List.length_take]; rfl)) ?_
        with_reducible refine (laws_toTrie.calls kj24 _ _ l1_0 t477 _ ?side1 ?side2 A102.out).mono ?_
        (case side1 => exact (Kd.C_below HR1_0.out HB.out))
        (case side2 => exact HC1_0.out)
        rintro e w113 ⟨v478, rfl, ho0, hb⟩
        refine ⟨_, rfl, ?_⟩
        have n0_ := Aside0.mk (Kd.R_elder' HO_459000.out (Kd.R_base ho0) hb)
        have n1_ := Aside0.mk (Kd.R_elder' HO_463000.out (Kd.R_base ho0) hb)
        have n2_ := Aside0.mk (Kd.R_elder' HO_467000.out (Kd.R_base ho0) hb)
        have n3_ := Aside0.mk (Kd.R_elder' HO_472000.out (Kd.R_base ho0) hb)
        have n4_ := Aside0.mk (Kd.R_elder' HO475.out (Kd.R_base ho0) hb)
        have n5_ := Aside0.mk (Kd.R_lower (Kd.R_new' (Kd.R_new' (Kd.R_new' (Kd.R_new' (Kd.R_new' ho0 (Kd.R_lt HO_459000.out)) (Kd.R_lt HO_463000.out)) (Kd.R_lt HO_467000.out)) (Kd.R_lt HO_472000.out)) (Kd.R_lt HO475.out)) (below_size HB.out))
        have n6_ := Aside0.mk (blk_below BK444.out hb)
        have n7_ := Aside0.mk (blk_below BK445.out hb)
        have n8_ := Aside0.mk (blk_below BK458.out hb)
        have n9_ := Aside0.mk (blk_below BK462.out hb)
        have n10_ := Aside0.mk (blk_below BK466.out hb)
        have n11_ := Aside0.mk (blk_below BK471.out hb)
        have n12_ := Aside0.mk (below_step HB.out hb)
        revert n0_ n1_ n2_ n3_ n4_ n5_ n6_ n7_ n8_ n9_ n10_ n11_ n12_
        clear HO_459000 HO_463000 HO_467000 HO_472000 HO475 BK444 BK445 BK458 BK462 BK466 BK471 HB
        intro HO_459000 HO_463000 HO_467000 HO_472000 HO475 HO479 BK444 BK445 BK458 BK462 BK466 BK471 HB
        (try clear hb)
        (try clear hb2)
        (try clear hk)
        (try clear hi)
        (try clear ho0)
        obtain ⟨Ao114, co114, eo114⟩ := Kd.R_slice HO479.out
        (first | subst eo114 | (injection eo114 with f1_ f2_ f3_; have f4_ := f1_.symm; have f5_ := f3_.symm; clear f1_ f2_ f3_; subst f4_; subst f5_))
        refine hK.out _ _ ⟨(blk_cell BK466.out 0).trans rfl, (blk_cell BK445.out 0).trans rfl⟩ (fun hHeld => ?_)
        clear hK K
        refine norm_ (a' := ?_) ?_ ?_
        rotate_left
        ·show Act.put _ (some 61) _ = _
         simp only [Act.put, List.setIfInBounds_toArray, List.set_cons_zero, List.set_cons_succ, i64_w, i32_w]
         rfl
        refine one_ (i := 3) (N := some 62) #[true, true, true, true, false] rfl rfl (by kernel_rfl) (by decide) (fun K hK => ?_)
        refine goes_ Try.func9 (by kernel_rfl) rfl #[.agg #[.slice Ao56 t463.length co56], .agg #[.slice Ao114 t477.length co114]] (by rfl) rfl rfl (by (try simp only [List.map_toArray, List.map_cons, List.map_nil]); first | done | rfl | (simp only [List.length_drop, List.length_take]; rfl)) ?_
        with_reducible refine (laws_eqTrie.calls kj24 _ _ t463 _ _ t477 true _ ?side1 ?side2 ?side3 ?side4 A103.out).mono ?_
        (case side1 => exact (Kd.R_reads' HO_467000.out).2.2)
        (case side2 => exact (Kd.R_reads' HO_467000.out).2.1)
        (case side3 => exact (Kd.R_reads' HO479.out).2.2)
        (case side4 => exact (Kd.R_reads' HO479.out).2.1)
        rintro e w115 ⟨rfl, hb⟩
        refine ⟨_, rfl, ?_⟩
        have n0_ := Aside0.mk (Kd.R_below HO_459000.out hb)
        have n1_ := Aside0.mk (Kd.R_below HO_463000.out hb)
        have n2_ := Aside0.mk (Kd.R_below HO_467000.out hb)
        have n3_ := Aside0.mk (Kd.R_below HO_472000.out hb)
        have n4_ := Aside0.mk (Kd.R_below HO475.out hb)
        have n5_ := Aside0.mk (Kd.R_below HO479.out hb)
        have n6_ := Aside0.mk (blk_below BK444.out hb)
        have n7_ := Aside0.mk (blk_below BK445.out hb)
        have n8_ := Aside0.mk (blk_below BK458.out hb)
        have n9_ := Aside0.mk (blk_below BK462.out hb)
        have n10_ := Aside0.mk (blk_below BK466.out hb)
        have n11_ := Aside0.mk (blk_below BK471.out hb)
        have n12_ := Aside0.mk (below_step HB.out hb)
        revert n0_ n1_ n2_ n3_ n4_ n5_ n6_ n7_ n8_ n9_ n10_ n11_ n12_
        clear HO_459000 HO_463000 HO_467000 HO_472000 HO475 HO479 BK444 BK445 BK458 BK462 BK466 BK471 HB
        intro HO_459000 HO_463000 HO_467000 HO_472000 HO475 HO479 BK444 BK445 BK458 BK462 BK466 BK471 HB
        (try clear hb)
        (try clear hb2)
        (try clear hk)
        (try clear hi)
        refine hK.out _ _ ⟨(blk_cell BK466.out 0).trans rfl, (blk_cell BK445.out 0).trans rfl⟩ (fun hHeld => ?_)
        clear hK K
        refine norm_ (a' := ?_) ?_ ?_
        rotate_left
        ·show Act.put _ (some 62) _ = _
         simp only [Act.put, List.setIfInBounds_toArray, List.set_cons_zero, List.set_cons_succ, i64_w, i32_w]
         rfl
        refine pure_ (i := 4) (N := some 63) (v := ?_) (a' := ?_) #[true, true, true, true, true] rfl rfl (by kernel_rfl) (fun _ _ _ h => h) (Or.inl ⟨by rfl, ?_⟩) ?_ ?_
        rotate_left
        ·intro w'
         go_simp
         with_reducible rfl
        rotate_left
        ·simp only [Act.put, List.setIfInBounds_toArray, List.set_cons_zero, List.set_cons_succ, i64_w, i32_w]
         rfl
        refine done_ (by kernel_rfl) ?_
        have hnb116 := NB462_444.out
        have hnc116 := NB444_462.out
        have hnb117 := NB462_445.out
        have hnc117 := NB445_462.out
        have hnb118 := NB462_458.out
        have hnc118 := NB458_462.out
        have hnb119 := NB462_466.out
        have hnc119 := NB466_462.out
        have hnb120 := NB462_471.out
        have hnc120 := NB471_462.out
        have hcz121_0 : w115.cell? ⟨gb462, 0, none⟩ = some (.slice Ao47 t459.length co47) := (blk_cell BK462.out 0).trans rfl
        have hfz121_0 := blk_frozen BK462.out 0
        go_upto_region 21 with (first | ((with_reducible refine gate_callee (f := 10) rfl ?_); refine goesL_ (some 66) rfl rfl Try.func10 (by kernel_rfl) rfl #[.agg #[.slice Ao47 t459.length co47], .int .i64 1] rfl (by (try simp only [List.map_toArray, List.map_cons, List.map_nil]); first | done | rfl | (simp only [List.length_drop, List.length_take]; rfl)) ?_; (with_reducible refine (laws_markTrie.calls kj24 (fun k_ => some k_ = (.slice Ao47 t459.length co47 : Value).ownBlock) (.slice Ao47 t459.length co47) t459 1 t481 t482 w _ ?side1 ?side2 A105.out).mono ?_); (case side1 => repeat (first | (with_reducible first | exact HB.out | apply below_alloc | apply pw_below_drewN | apply below_drew1 | refine below_set ?_ GE444.out | refine below_set ?_ GE445.out | refine below_set ?_ GE458.out | refine below_set ?_ GE462.out | refine below_set ?_ GE466.out | refine below_set ?_ GE471.out) | exact HB.out)); (case side2 => exact Kd.R_tight rfl HO_463000.out); rintro e w122 ⟨rfl, hy0, hb, hkp⟩; refine ⟨_, rfl, ?_⟩; have n0_ := Aside0.mk (Kd.R_mono (ok' := fun k_ => some k_ ≠ (.slice Ao47 t459.length co47 : Value).ownBlock ∧ some k_ ≠ (.slice Ao56 t463.length co56 : Value).ownBlock ∧ some k_ ≠ (.slice Ao65 t467.length co65 : Value).ownBlock ∧ some k_ ≠ (.slice Ao110 t473.length co110 : Value).ownBlock ∧ some k_ ≠ (.slice Ao114 t477.length co114 : Value).ownBlock) (Kd.R_keptB (HO_459000.out) hkp (fun k_ hk_ hs_ => (hk_.1.1.1) hs_)) (fun k_ hk_ => ⟨hk_.1.1.1.1, hk_.1.1.1.2.1, hk_.1.1.1.2.2, hk_.1.1.2, hk_.1.2⟩)); have n1_ := Aside0.mk (Kd.R_reok rfl hy0 (fun k_ e_ => HO_463000.out.1 k_ e_)); have n2_ := Aside0.mk (Kd.R_mono (ok' := fun k_ => some k_ ≠ (.slice Ao41 t454.length co41 : Value).ownBlock ∧ some k_ ≠ (.slice Ao47 t459.length co47 : Value).ownBlock ∧ some k_ ≠ (.slice Ao65 t467.length co65 : Value).ownBlock ∧ some k_ ≠ (.slice Ao110 t473.length co110 : Value).ownBlock ∧ some k_ ≠ (.slice Ao114 t477.length co114 : Value).ownBlock) (Kd.R_keptB (HO_467000.out) hkp (fun k_ hk_ hs_ => (hk_.1.1.2.1) hs_)) (fun k_ hk_ => ⟨hk_.1.1.1.1, hk_.1.1.1.2.1, hk_.1.1.1.2.2, hk_.1.1.2, hk_.1.2⟩)); have n3_ := Aside0.mk (Kd.R_mono (ok' := fun k_ => some k_ ≠ (.slice Ao41 t454.length co41 : Value).ownBlock ∧ some k_ ≠ (.slice Ao47 t459.length co47 : Value).ownBlock ∧ some k_ ≠ (.slice Ao56 t463.length co56 : Value).ownBlock ∧ some k_ ≠ (.slice Ao110 t473.length co110 : Value).ownBlock ∧ some k_ ≠ (.slice Ao114 t477.length co114 : Value).ownBlock) (Kd.R_keptB (HO_472000.out) hkp (fun k_ hk_ hs_ => (hk_.1.1.2.1) hs_)) (fun k_ hk_ => ⟨hk_.1.1.1.1, hk_.1.1.1.2.1, hk_.1.1.1.2.2, hk_.1.1.2, hk_.1.2⟩)); have n4_ := Aside0.mk (blk_kept (by (with_reducible repeat (first | refine blk_drewN ?_ _ | refine blk_drew ?_ | refine blk_alloc ?_ _)); exact BK444.out) hkp (fun hs_ => (fun e_ => (Kd.R_ne HO_463000.out BK444.out (by decide)) e_) hs_)); have n5_ := Aside0.mk (blk_kept (by (with_reducible repeat (first | refine blk_drewN ?_ _ | refine blk_drew ?_ | refine blk_alloc ?_ _)); exact BK445.out) hkp (fun hs_ => (fun e_ => (Kd.R_ne HO_463000.out BK445.out (by decide)) e_) hs_)); have n6_ := Aside0.mk (blk_kept (by (with_reducible repeat (first | refine blk_drewN ?_ _ | refine blk_drew ?_ | refine blk_alloc ?_ _)); exact BK458.out) hkp (fun hs_ => (fun e_ => (Kd.R_ne HO_463000.out BK458.out (by decide)) e_) hs_)); have n7_ := Aside0.mk (blk_kept (by (with_reducible repeat (first | refine blk_drewN ?_ _ | refine blk_drew ?_ | refine blk_alloc ?_ _)); exact BK462.out) hkp (fun hs_ => (fun e_ => (Kd.R_ne HO_463000.out BK462.out (by decide)) e_) hs_)); have n8_ := Aside0.mk (blk_kept (by (with_reducible repeat (first | refine blk_drewN ?_ _ | refine blk_drew ?_ | refine blk_alloc ?_ _)); exact BK466.out) hkp (fun hs_ => (fun e_ => (Kd.R_ne HO_463000.out BK466.out (by decide)) e_) hs_)); have n9_ := Aside0.mk (blk_kept (by (with_reducible repeat (first | refine blk_drewN ?_ _ | refine blk_drew ?_ | refine blk_alloc ?_ _)); exact BK471.out) hkp (fun hs_ => (fun e_ => (Kd.R_ne HO_463000.out BK471.out (by decide)) e_) hs_)); have n10_ := Aside0.mk (Kd.R_mono (ok' := fun k_ => some k_ ≠ (.slice Ao41 t454.length co41 : Value).ownBlock ∧ some k_ ≠ (.slice Ao47 t459.length co47 : Value).ownBlock ∧ some k_ ≠ (.slice Ao56 t463.length co56 : Value).ownBlock ∧ some k_ ≠ (.slice Ao65 t467.length co65 : Value).ownBlock ∧ some k_ ≠ (.slice Ao114 t477.length co114 : Value).ownBlock) (Kd.R_keptB (HO475.out) hkp (fun k_ hk_ hs_ => (hk_.1.1.1.2) hs_)) (fun k_ hk_ => ⟨hk_.1.1.1.1.1.2, hk_.1.1.1.1.2, hk_.1.1.1.2, hk_.1.1.2, hk_.1.2⟩)); have n11_ := Aside0.mk (Kd.R_mono (ok' := fun k_ => some k_ ≠ (.slice Ao41 t454.length co41 : Value).ownBlock ∧ some k_ ≠ (.slice Ao47 t459.length co47 : Value).ownBlock ∧ some k_ ≠ (.slice Ao56 t463.length co56 : Value).ownBlock ∧ some k_ ≠ (.slice Ao65 t467.length co65 : Value).ownBlock ∧ some k_ ≠ (.slice Ao110 t473.length co110 : Value).ownBlock) (Kd.R_keptB (HO479.out) hkp (fun k_ hk_ hs_ => (hk_.1.1.1.2) hs_)) (fun k_ hk_ => ⟨hk_.1.1.1.1.1.2, hk_.1.1.1.1.2, hk_.1.1.1.2, hk_.1.1.2, hk_.1.2⟩)); have n12_ := Aside0.mk (hb); clear HO_459000; clear HO_463000; clear HO_467000; clear HO_472000; clear BK444; clear BK445; clear BK458; clear BK462; clear BK466; clear BK471; clear HO475; clear HO479; clear HB; have HO_459000 := n0_; have HO_463000 := n1_; have HO_467000 := n2_; have HO_472000 := n3_; have BK444 := n4_; have BK445 := n5_; have BK458 := n6_; have BK462 := n7_; have BK466 := n8_; have BK471 := n9_; have HO475 := n10_; have HO479 := n11_; have HB := n12_; clear n0_ n1_ n2_ n3_ n4_ n5_ n6_ n7_ n8_ n9_ n10_ n11_ n12_; (try clear hb); (try clear hkp); (try clear hy0); have hnb123 := NB466_444.out; have hnc123 := NB444_466.out; have hnb124 := NB466_445.out; have hnc124 := NB445_466.out; have hnb125 := NB466_458.out; have hnc125 := NB458_466.out; have hnb126 := NB466_471.out; have hnc126 := NB471_466.out; have hcz127_0 : w122.cell? ⟨gb466, 0, none⟩ = some (.slice Ao56 t463.length co56) := (blk_cell BK466.out 0).trans rfl; have hfz127_0 := blk_frozen BK466.out 0) | ((with_reducible refine gate_callee (f := 10) rfl ?_); refine goesL_ (some 69) rfl rfl Try.func10 (by kernel_rfl) rfl #[.agg #[.slice Ao56 t463.length co56], .int .i64 t481] rfl (by (try simp only [List.map_toArray, List.map_cons, List.map_nil]); first | done | rfl | (simp only [List.length_drop, List.length_take]; rfl)) ?_; (with_reducible refine (laws_markTrie.calls kj24 (fun k_ => some k_ = (.slice Ao56 t463.length co56 : Value).ownBlock) (.slice Ao56 t463.length co56) t463 t481 t483 t484 w _ ?side1 ?side2 A106.out).mono ?_); (case side1 => repeat (first | (with_reducible first | exact HB.out | apply below_alloc | apply pw_below_drewN | apply below_drew1 | refine below_set ?_ GE444.out | refine below_set ?_ GE445.out | refine below_set ?_ GE458.out | refine below_set ?_ GE462.out | refine below_set ?_ GE466.out | refine below_set ?_ GE471.out) | exact HB.out)); (case side2 => exact Kd.R_tight rfl HO_467000.out); rintro e w128 ⟨rfl, hy0, hb, hkp⟩; refine ⟨_, rfl, ?_⟩; have n0_ := Aside0.mk (Kd.R_mono (ok' := fun k_ => some k_ ≠ (.slice Ao47 t459.length co47 : Value).ownBlock ∧ some k_ ≠ (.slice Ao56 t463.length co56 : Value).ownBlock ∧ some k_ ≠ (.slice Ao65 t467.length co65 : Value).ownBlock ∧ some k_ ≠ (.slice Ao110 t473.length co110 : Value).ownBlock ∧ some k_ ≠ (.slice Ao114 t477.length co114 : Value).ownBlock) (Kd.R_keptB (HO_459000.out) hkp (fun k_ hk_ hs_ => (hk_.2.1) hs_)) (fun k_ hk_ => ⟨hk_.1.1, hk_.1.2.1, hk_.1.2.2.1, hk_.1.2.2.2.1, hk_.1.2.2.2.2⟩)); have n1_ := Aside0.mk (Kd.R_mono (ok' := fun k_ => some k_ ≠ (.slice Ao41 t454.length co41 : Value).ownBlock ∧ some k_ ≠ (.slice Ao56 t463.length co56 : Value).ownBlock ∧ some k_ ≠ (.slice Ao65 t467.length co65 : Value).ownBlock ∧ some k_ ≠ (.slice Ao110 t473.length co110 : Value).ownBlock ∧ some k_ ≠ (.slice Ao114 t477.length co114 : Value).ownBlock) (Kd.R_keptB (HO_463000.out) hkp (fun k_ hk_ hs_ => (hk_.1.1.2.1) hs_)) (fun k_ hk_ => ⟨hk_.1.1.1.1, hk_.1.1.1.2.1, hk_.1.1.1.2.2, hk_.1.1.2, hk_.1.2⟩)); have n2_ := Aside0.mk (Kd.R_reok rfl hy0 (fun k_ e_ => HO_467000.out.1 k_ e_)); have n3_ := Aside0.mk (Kd.R_mono (ok' := fun k_ => some k_ ≠ (.slice Ao41 t454.length co41 : Value).ownBlock ∧ some k_ ≠ (.slice Ao47 t459.length co47 : Value).ownBlock ∧ some k_ ≠ (.slice Ao56 t463.length co56 : Value).ownBlock ∧ some k_ ≠ (.slice Ao110 t473.length co110 : Value).ownBlock ∧ some k_ ≠ (.slice Ao114 t477.length co114 : Value).ownBlock) (Kd.R_keptB (HO_472000.out) hkp (fun k_ hk_ hs_ => (hk_.2.2.1) hs_)) (fun k_ hk_ => ⟨hk_.1.1, hk_.1.2.1, hk_.1.2.2.1, hk_.1.2.2.2.1, hk_.1.2.2.2.2⟩)); have n4_ := Aside0.mk (blk_kept (by (with_reducible repeat (first | refine blk_drewN ?_ _ | refine blk_drew ?_ | refine blk_alloc ?_ _)); exact BK444.out) hkp (fun hs_ => (fun e_ => (Kd.R_ne HO_467000.out BK444.out (by decide)) e_) hs_)); have n5_ := Aside0.mk (blk_kept (by (with_reducible repeat (first | refine blk_drewN ?_ _ | refine blk_drew ?_ | refine blk_alloc ?_ _)); exact BK445.out) hkp (fun hs_ => (fun e_ => (Kd.R_ne HO_467000.out BK445.out (by decide)) e_) hs_)); have n6_ := Aside0.mk (blk_kept (by (with_reducible repeat (first | refine blk_drewN ?_ _ | refine blk_drew ?_ | refine blk_alloc ?_ _)); exact BK458.out) hkp (fun hs_ => (fun e_ => (Kd.R_ne HO_467000.out BK458.out (by decide)) e_) hs_)); have n7_ := Aside0.mk (blk_kept (by (with_reducible repeat (first | refine blk_drewN ?_ _ | refine blk_drew ?_ | refine blk_alloc ?_ _)); exact BK462.out) hkp (fun hs_ => (fun e_ => (Kd.R_ne HO_467000.out BK462.out (by decide)) e_) hs_)); have n8_ := Aside0.mk (blk_kept (by (with_reducible repeat (first | refine blk_drewN ?_ _ | refine blk_drew ?_ | refine blk_alloc ?_ _)); exact BK466.out) hkp (fun hs_ => (fun e_ => (Kd.R_ne HO_467000.out BK466.out (by decide)) e_) hs_)); have n9_ := Aside0.mk (blk_kept (by (with_reducible repeat (first | refine blk_drewN ?_ _ | refine blk_drew ?_ | refine blk_alloc ?_ _)); exact BK471.out) hkp (fun hs_ => (fun e_ => (Kd.R_ne HO_467000.out BK471.out (by decide)) e_) hs_)); have n10_ := Aside0.mk (Kd.R_mono (ok' := fun k_ => some k_ ≠ (.slice Ao41 t454.length co41 : Value).ownBlock ∧ some k_ ≠ (.slice Ao47 t459.length co47 : Value).ownBlock ∧ some k_ ≠ (.slice Ao56 t463.length co56 : Value).ownBlock ∧ some k_ ≠ (.slice Ao65 t467.length co65 : Value).ownBlock ∧ some k_ ≠ (.slice Ao114 t477.length co114 : Value).ownBlock) (Kd.R_keptB (HO475.out) hkp (fun k_ hk_ hs_ => (hk_.2.2.1) hs_)) (fun k_ hk_ => ⟨hk_.1.1, hk_.1.2.1, hk_.1.2.2.1, hk_.1.2.2.2.1, hk_.1.2.2.2.2⟩)); have n11_ := Aside0.mk (Kd.R_mono (ok' := fun k_ => some k_ ≠ (.slice Ao41 t454.length co41 : Value).ownBlock ∧ some k_ ≠ (.slice Ao47 t459.length co47 : Value).ownBlock ∧ some k_ ≠ (.slice Ao56 t463.length co56 : Value).ownBlock ∧ some k_ ≠ (.slice Ao65 t467.length co65 : Value).ownBlock ∧ some k_ ≠ (.slice Ao110 t473.length co110 : Value).ownBlock) (Kd.R_keptB (HO479.out) hkp (fun k_ hk_ hs_ => (hk_.2.2.1) hs_)) (fun k_ hk_ => ⟨hk_.1.1, hk_.1.2.1, hk_.1.2.2.1, hk_.1.2.2.2.1, hk_.1.2.2.2.2⟩)); have n12_ := Aside0.mk (hb); clear HO_459000; clear HO_463000; clear HO_467000; clear HO_472000; clear BK444; clear BK445; clear BK458; clear BK462; clear BK466; clear BK471; clear HO475; clear HO479; clear HB; have HO_459000 := n0_; have HO_463000 := n1_; have HO_467000 := n2_; have HO_472000 := n3_; have BK444 := n4_; have BK445 := n5_; have BK458 := n6_; have BK462 := n7_; have BK466 := n8_; have BK471 := n9_; have HO475 := n10_; have HO479 := n11_; have HB := n12_; clear n0_ n1_ n2_ n3_ n4_ n5_ n6_ n7_ n8_ n9_ n10_ n11_ n12_; (try clear hb); (try clear hkp); (try clear hy0)))
        (try simp only [Act.put, List.setIfInBounds_toArray, List.set_cons_zero, List.set_cons_succ])
        go_cut [82] (fun v82 wc => ∃ (kq : Nat) (x82_106 : Bool), v82 = .bool x82_106 ∧ Aside0 (laws_FnExactWithoutTrie.j1 kq t457 x82_106 l0_0 l1_0 t454 t467 = some true) ∧ Aside0 (kq ≤ kj24) ∧ Aside0 (Kd.R k67 67 wc w.heap.size (fun k_ => some k_ ≠ ((.slice Ao47 t459.length co47) : Value).ownBlock ∧ some k_ ≠ ((.slice Ao56 t463.length co56) : Value).ownBlock ∧ some k_ ≠ ((.slice Ao65 t467.length co65) : Value).ownBlock) (.slice Ao41 t454.length co41) t454) ∧ Aside0 (Kd.R k67 67 wc w.heap.size (fun k_ => some k_ ≠ ((.slice Ao41 t454.length co41) : Value).ownBlock ∧ some k_ ≠ ((.slice Ao56 t463.length co56) : Value).ownBlock ∧ some k_ ≠ ((.slice Ao65 t467.length co65) : Value).ownBlock) (.slice Ao47 t459.length co47) t482) ∧ Aside0 (Kd.R k67 67 wc w.heap.size (fun k_ => some k_ ≠ ((.slice Ao41 t454.length co41) : Value).ownBlock ∧ some k_ ≠ ((.slice Ao47 t459.length co47) : Value).ownBlock ∧ some k_ ≠ ((.slice Ao65 t467.length co65) : Value).ownBlock) (.slice Ao56 t463.length co56) t484) ∧ Aside0 (Kd.R k67 67 wc w.heap.size (fun k_ => some k_ ≠ ((.slice Ao41 t454.length co41) : Value).ownBlock ∧ some k_ ≠ ((.slice Ao47 t459.length co47) : Value).ownBlock ∧ some k_ ≠ ((.slice Ao56 t463.length co56) : Value).ownBlock) (.slice Ao65 t467.length co65) t467) ∧ Aside0 (wc.heap[gb444]? = some (.cells #[(.slice A0_0 l0_0.length c0_0)] 32 (0, 0))) ∧ Aside0 (wc.heap[gb445]? = some (.cells #[(.slice A1_0 l1_0.length c1_0)] 32 (0, 0))) ∧ Aside0 (wc.heap[gb458]? = some (.cells #[(.slice Ao41 t454.length co41)] 24 (0, 0))) ∧ Aside0 (wc.heap[gb462]? = some (.cells #[(.slice Ao47 t459.length co47)] 24 (0, 0))) ∧ Aside0 (wc.heap[gb466]? = some (.cells #[(.slice Ao56 t463.length co56)] 24 (0, 0))) ∧ Aside0 (wc.heap[gb471]? = some (.cells #[(.slice Ao65 t467.length co65)] 24 (0, 0))) ∧ Aside0 (Below w.heap.size w wc))
        case first =>
         have H := HC107.out
         clear HC107
         by_cases c129 : t483 < 0
         ·rw [if_pos c129] at H
          exact absurd H (by cases kj24 <;> simp [laws_FnExactWithoutTrie.j1])
         ·rw [if_neg c129] at H
          have c129b0 : decide (t483 < 0) = false := decide_eq_false c129
          clear c129
          (first | rw [c129b0] | (simp only [i64_w, i32_w]; rw [c129b0]) | skip)
          replace H := Option.bind_eq_some_iff.mp H
          obtain ⟨t485, A1300, H⟩ := H
          replace H : (if t485 = true then (laws_FnExactWithoutTrie.j1 kj24 t457 (t470 != t457) l0_0 l1_0 t454 t467) else (laws_FnExactWithoutTrie.j1 kj24 t457 true l0_0 l1_0 t454 t467)) = some true := H
          have A130 := Aside0.mk A1300
          clear A1300
          by_cases c131 : t485 = true
          ·subst c131
           have H1 : (laws_FnExactWithoutTrie.j1 kj24 t457 (t470 != t457) l0_0 l1_0 t454 t467) = some true := by rw [if_pos rfl] at H; exact H
           clear H
           have H := H1
           clear H1
           have H' := Aside0.mk H
           clear H
           have hnb132 := NB471_444.out
           have hnc132 := NB444_471.out
           have hnb133 := NB471_445.out
           have hnc133 := NB445_471.out
           have hnb134 := NB471_458.out
           have hnc134 := NB458_471.out
           have hnb135 := NB471_462.out
           have hnc135 := NB462_471.out
           have hnb136 := NB471_466.out
           have hnc136 := NB466_471.out
           have hcz137_0 : w128.cell? ⟨gb471, 0, none⟩ = some (.slice Ao65 t467.length co65) := (blk_cell BK471.out 0).trans rfl
           have hfz137_0 := blk_frozen BK471.out 0
           have hnb138 := NB458_444.out
           have hnc138 := NB444_458.out
           have hnb139 := NB458_445.out
           have hnc139 := NB445_458.out
           have hnb140 := NB458_462.out
           have hnc140 := NB462_458.out
           have hnb141 := NB458_466.out
           have hnc141 := NB466_458.out
           have hcz142_0 : w128.cell? ⟨gb458, 0, none⟩ = some (.slice Ao41 t454.length co41) := (blk_cell BK458.out 0).trans rfl
           have hfz142_0 := blk_frozen BK458.out 0
           go_wp2_with (first | (go_at_call 9; (with_reducible refine (laws_eqTrie.calls kj24 _ _ t467 _ _ t454 true _ ?side1 ?side2 ?side3 ?side4 A130.out).mono ?_); (case side1 => repeat (first | exact (Kd.R_reads' HO_472000.out).2.2 | (with_reducible refine Kd.C_alloc ?_ _) | (with_reducible refine Kd.C_drewN ?_ _) | (with_reducible refine Kd.C_drew ?_))); (case side2 => exact (Kd.R_reads' HO_472000.out).2.1); (case side3 => repeat (first | exact (Kd.R_reads' HO_459000.out).2.2 | (with_reducible refine Kd.C_alloc ?_ _) | (with_reducible refine Kd.C_drewN ?_ _) | (with_reducible refine Kd.C_drew ?_))); (case side4 => exact (Kd.R_reads' HO_459000.out).2.1); rintro e w143 ⟨rfl, hb⟩; have n0_ := Aside0.mk (Kd.R_below (by (with_reducible repeat (first | apply Kd.R_alloc | apply Kd.R_drewN | apply Kd.R_drew)); exact HO_459000.out) hb); have n1_ := Aside0.mk (Kd.R_below (by (with_reducible repeat (first | apply Kd.R_alloc | apply Kd.R_drewN | apply Kd.R_drew)); exact HO_463000.out) hb); have n2_ := Aside0.mk (Kd.R_below (by (with_reducible repeat (first | apply Kd.R_alloc | apply Kd.R_drewN | apply Kd.R_drew)); exact HO_467000.out) hb); have n3_ := Aside0.mk (Kd.R_below (by (with_reducible repeat (first | apply Kd.R_alloc | apply Kd.R_drewN | apply Kd.R_drew)); exact HO_472000.out) hb); have n4_ := Aside0.mk (Kd.R_below (by (with_reducible repeat (first | apply Kd.R_alloc | apply Kd.R_drewN | apply Kd.R_drew)); exact HO475.out) hb); have n5_ := Aside0.mk (Kd.R_below (by (with_reducible repeat (first | apply Kd.R_alloc | apply Kd.R_drewN | apply Kd.R_drew)); exact HO479.out) hb); have n6_ := Aside0.mk (blk_below (g := gb444) (o := .cells #[.slice A0_0 l0_0.length c0_0] 32 (0, 0)) (by (with_reducible repeat (first | refine blk_drewN ?_ _ | refine blk_drew ?_ | refine blk_alloc ?_ _)); exact BK444.out) hb); have n7_ := Aside0.mk (blk_below (g := gb445) (o := .cells #[.slice A1_0 l1_0.length c1_0] 32 (0, 0)) (by (with_reducible repeat (first | refine blk_drewN ?_ _ | refine blk_drew ?_ | refine blk_alloc ?_ _)); exact BK445.out) hb); have n8_ := Aside0.mk (blk_below (g := gb458) (o := .cells #[.slice Ao41 t454.length co41] 24 (0, 0)) (by (with_reducible repeat (first | refine blk_drewN ?_ _ | refine blk_drew ?_ | refine blk_alloc ?_ _)); exact BK458.out) hb); have n9_ := Aside0.mk (blk_below (g := gb462) (o := .cells #[.slice Ao47 t459.length co47] 24 (0, 0)) (by (with_reducible repeat (first | refine blk_drewN ?_ _ | refine blk_drew ?_ | refine blk_alloc ?_ _)); exact BK462.out) hb); have n10_ := Aside0.mk (blk_below (g := gb466) (o := .cells #[.slice Ao56 t463.length co56] 24 (0, 0)) (by (with_reducible repeat (first | refine blk_drewN ?_ _ | refine blk_drew ?_ | refine blk_alloc ?_ _)); exact BK466.out) hb); have n11_ := Aside0.mk (blk_below (g := gb471) (o := .cells #[.slice Ao65 t467.length co65] 24 (0, 0)) (by (with_reducible repeat (first | refine blk_drewN ?_ _ | refine blk_drew ?_ | refine blk_alloc ?_ _)); exact BK471.out) hb); have n12_ := Aside0.mk (below_step (by repeat (first | (with_reducible first | exact HB.out | apply below_alloc | apply pw_below_drewN | apply below_drew1 | refine below_set ?_ GE444.out | refine below_set ?_ GE445.out | refine below_set ?_ GE458.out | refine below_set ?_ GE462.out | refine below_set ?_ GE466.out | refine below_set ?_ GE471.out) | exact HB.out)) hb); clear HO_459000; clear HO_463000; clear HO_467000; clear HO_472000; clear HO475; clear HO479; clear BK444; clear BK445; clear BK458; clear BK462; clear BK466; clear BK471; clear HB; have HO_459000 := n0_; have HO_463000 := n1_; have HO_467000 := n2_; have HO_472000 := n3_; have HO475 := n4_; have HO479 := n5_; have BK444 := n6_; have BK445 := n7_; have BK458 := n8_; have BK462 := n9_; have BK466 := n10_; have BK471 := n11_; have HB := n12_; clear n0_ n1_ n2_ n3_ n4_ n5_ n6_ n7_ n8_ n9_ n10_ n11_ n12_; (try clear hb); (try clear hb2); (try clear hk); (try clear hi)))
           go_meet
           case rel => exact ⟨_, ((t470 != t457)), (by first | rfl | (simp; done) | (simp [*]; done)), H', ⟨by have := HJ24.out; first | omega | exact Nat.le_refl _⟩, ⟨by (with_reducible repeat (first | apply Kd.R_alloc | apply Kd.R_drewN | apply Kd.R_drew)); exact Kd.R_mono HO_459000.out (fun _ hk => ⟨hk.1, ⟨hk.2.1, hk.2.2.1⟩⟩)⟩, ⟨by (with_reducible repeat (first | apply Kd.R_alloc | apply Kd.R_drewN | apply Kd.R_drew)); exact Kd.R_mono HO_463000.out (fun _ hk => ⟨hk.1, ⟨hk.2.1, hk.2.2.1⟩⟩)⟩, ⟨by (with_reducible repeat (first | apply Kd.R_alloc | apply Kd.R_drewN | apply Kd.R_drew)); exact Kd.R_mono HO_467000.out (fun _ hk => ⟨hk.1, ⟨hk.2.1, hk.2.2.1⟩⟩)⟩, ⟨by (with_reducible repeat (first | apply Kd.R_alloc | apply Kd.R_drewN | apply Kd.R_drew)); exact Kd.R_mono HO_472000.out (fun _ hk => ⟨hk.1, ⟨hk.2.1, hk.2.2.1⟩⟩)⟩, ⟨by (with_reducible repeat (first | refine blk_drewN ?_ _ | refine blk_drew ?_ | refine blk_alloc ?_ _)); exact BK444.out⟩, ⟨by (with_reducible repeat (first | refine blk_drewN ?_ _ | refine blk_drew ?_ | refine blk_alloc ?_ _)); exact BK445.out⟩, ⟨by (with_reducible repeat (first | refine blk_drewN ?_ _ | refine blk_drew ?_ | refine blk_alloc ?_ _)); exact BK458.out⟩, ⟨by (with_reducible repeat (first | refine blk_drewN ?_ _ | refine blk_drew ?_ | refine blk_alloc ?_ _)); exact BK462.out⟩, ⟨by (with_reducible repeat (first | refine blk_drewN ?_ _ | refine blk_drew ?_ | refine blk_alloc ?_ _)); exact BK466.out⟩, ⟨by (with_reducible repeat (first | refine blk_drewN ?_ _ | refine blk_drew ?_ | refine blk_alloc ?_ _)); exact BK471.out⟩, ⟨by repeat (first | (with_reducible first | exact HB.out | apply below_alloc | apply pw_below_drewN | apply below_drew1 | refine below_set ?_ GE444.out | refine below_set ?_ GE445.out | refine below_set ?_ GE458.out | refine below_set ?_ GE462.out | refine below_set ?_ GE466.out | refine below_set ?_ GE471.out) | exact HB.out)⟩⟩
          ·replace c131 := Bool.eq_false_iff.mpr c131
           subst c131
           have H1 : (laws_FnExactWithoutTrie.j1 kj24 t457 true l0_0 l1_0 t454 t467) = some true := by rw [if_neg (show ¬ (false = true) by decide)] at H; exact H
           exact absurd H1 (by cases kj24 <;> simp [laws_FnExactWithoutTrie.j1])
        case rest =>
         clear HC107
         try clear c1
         try clear p2
         try clear c4
         try clear c5
         try clear c6
         try clear c7
         try clear c8
         try clear c9
         try clear c10
         try clear c11
         try clear c12
         try clear c13
         try clear c14
         try clear c15
         try clear c16
         try clear c17
         try clear c43
         try clear c48
         try clear c49
         try clear c50
         try clear c52
         try clear c57
         try clear c58
         try clear c59
         try clear c60
         try clear c66
         try clear c67
         try clear c68
         try clear c69
         try clear c70
         try clear c73
         try clear c74
         try clear c75
         try clear c76
         try clear c77
         try clear c78
         try clear c80
         try clear c81
         try clear c82
         try clear c83
         try clear c86
         try clear c87
         try clear c88
         try clear c89
         try clear c90
         try clear c92
         try clear c93
         try clear c94
         try clear c95
         try clear c98
         try clear c101
         try clear c104
         try clear c116
         try clear c117
         try clear c118
         try clear c119
         try clear c120
         try clear c123
         try clear c124
         try clear c125
         try clear c126
         try clear c129
         try clear c129b0
         try clear c131
         try clear c132
         try clear c133
         try clear c134
         try clear c135
         try clear c136
         try clear c138
         try clear c139
         try clear c140
         try clear c141
         try clear c144
         try clear c145
         try clear c146
         try clear c147
         try clear c148
         try clear c150
         try clear c151
         try clear c152
         try clear c153
         try clear hcz121_0
         try clear hcz127_0
         try clear hcz137_0
         try clear hcz142_0
         try clear hcz149_0
         try clear hcz154_0
         try clear hcz44_0
         try clear hcz51_0
         try clear hcz53_0
         try clear hcz61_0
         try clear hcz62_0
         try clear hcz71_0
         try clear hcz79_0
         try clear hcz84_0
         try clear hcz91_0
         try clear hcz96_0
         try clear hfz121_0
         try clear hfz127_0
         try clear hfz137_0
         try clear hfz142_0
         try clear hfz149_0
         try clear hfz154_0
         try clear hfz44_0
         try clear hfz51_0
         try clear hfz53_0
         try clear hfz61_0
         try clear hfz62_0
         try clear hfz71_0
         try clear hfz79_0
         try clear hfz84_0
         try clear hfz91_0
         try clear hfz96_0
         try clear p2
         obtain ⟨kq, x82_106, rfl, HA, HJ106, HO_459000, HO_463000, HO_467000, HO_472000, BK444, BK445, BK458, BK462, BK466, BK471, HB⟩ := hcut
         have hl463000_106 := (Kd.R_reads' HO_463000.out).1
         rw [hl463000_106] at HO_463000
         (try simp only [hl463000_106])
         (try simp only [hl463000_106] at BK444)
         (try simp only [hl463000_106] at BK445)
         (try simp only [hl463000_106] at BK458)
         (try simp only [hl463000_106] at BK462)
         (try simp only [hl463000_106] at BK466)
         (try simp only [hl463000_106] at BK471)
         (try simp only [hl463000_106] at HO_459000)
         (try simp only [hl463000_106] at HO_467000)
         (try simp only [hl463000_106] at HO_472000)
         have hl467000_106 := (Kd.R_reads' HO_467000.out).1
         rw [hl467000_106] at HO_467000
         (try simp only [hl467000_106])
         (try simp only [hl467000_106] at BK444)
         (try simp only [hl467000_106] at BK445)
         (try simp only [hl467000_106] at BK458)
         (try simp only [hl467000_106] at BK462)
         (try simp only [hl467000_106] at BK466)
         (try simp only [hl467000_106] at BK471)
         (try simp only [hl467000_106] at HO_459000)
         (try simp only [hl467000_106] at HO_463000)
         (try simp only [hl467000_106] at HO_472000)
         cases kq with
         | zero => exact absurd HA.out (by simp [laws_FnExactWithoutTrie.j1])
         | succ kj106 =>
          have H := HA.out
          clear HA
          simp only [laws_FnExactWithoutTrie.j1] at H
          by_cases c156 : x82_106 = true
          ·subst c156
           have H1 : (some false) = some true := by rw [if_pos rfl] at H; exact H
           exact absurd H1 (by simp)
          ·replace c156 := Bool.eq_false_iff.mpr c156
           subst c156
           have H1 : ((laws_markTrie.f kj106 t467 1).bind fun bt486 => ((laws_heldTrie.f kj106 bt486.2 1).bind fun t488 => (if t488 < 0 then (some false) else (if t488 = bt486.1 then ((laws_toTrie.f kj106 l0_0).bind fun t489 => ((laws_toTrie.f kj106 l1_0).bind fun t492 => ((impl_WithoutTrie.f t489 t492).bind fun bt495 => ((laws_eqTrie.f kj106 bt495.1 t454).bind fun t500 => (if t500 = true then (laws_FnExactWithoutTrie.j2 kj106 bt486.1 (bt495.2 != t457) bt486.2) else (laws_FnExactWithoutTrie.j2 kj106 bt486.1 true bt486.2)))))) else (some false))))) = some true := by rw [if_neg (show ¬ (false = true) by decide)] at H; exact H
           clear H
           have H := H1
           clear H1
           replace H := Option.bind_eq_some_iff.mp H
           obtain ⟨⟨t486, t487⟩, A1570, H⟩ := H
           replace H : ((laws_heldTrie.f kj106 t487 1).bind fun t488 => (if t488 < 0 then (some false) else (if t488 = t486 then ((laws_toTrie.f kj106 l0_0).bind fun t489 => ((laws_toTrie.f kj106 l1_0).bind fun t492 => ((impl_WithoutTrie.f t489 t492).bind fun bt495 => ((laws_eqTrie.f kj106 bt495.1 t454).bind fun t500 => (if t500 = true then (laws_FnExactWithoutTrie.j2 kj106 t486 (bt495.2 != t457) t487) else (laws_FnExactWithoutTrie.j2 kj106 t486 true t487)))))) else (some false)))) = some true := H
           have A157 := Aside0.mk A1570
           clear A1570
           replace H := Option.bind_eq_some_iff.mp H
           obtain ⟨t488, A1580, H⟩ := H
           replace H : (if t488 < 0 then (some false) else (if t488 = t486 then ((laws_toTrie.f kj106 l0_0).bind fun t489 => ((laws_toTrie.f kj106 l1_0).bind fun t492 => ((impl_WithoutTrie.f t489 t492).bind fun bt495 => ((laws_eqTrie.f kj106 bt495.1 t454).bind fun t500 => (if t500 = true then (laws_FnExactWithoutTrie.j2 kj106 t486 (bt495.2 != t457) t487) else (laws_FnExactWithoutTrie.j2 kj106 t486 true t487)))))) else (some false))) = some true := H
           have A158 := Aside0.mk A1580
           clear A1580
           by_cases c159 : t488 < 0
           ·rw [if_pos c159] at H
            exact absurd H (by simp)
           ·rw [if_neg c159] at H
            have c159b0 : decide (t488 < 0) = false := decide_eq_false c159
            clear c159
            by_cases c169 : t488 = t486
            ·rw [if_pos c169] at H
             have c169b0 : (t488 == t486) = true := beq_iff_eq.mpr c169
             have c169b1 : (t488 != t486) = false := bne_eq_false_iff_eq.mpr c169
             clear c169
             replace H := Option.bind_eq_some_iff.mp H
             obtain ⟨t489, A1700, H⟩ := H
             replace H : ((laws_toTrie.f kj106 l1_0).bind fun t492 => ((impl_WithoutTrie.f t489 t492).bind fun bt495 => ((laws_eqTrie.f kj106 bt495.1 t454).bind fun t500 => (if t500 = true then (laws_FnExactWithoutTrie.j2 kj106 t486 (bt495.2 != t457) t487) else (laws_FnExactWithoutTrie.j2 kj106 t486 true t487))))) = some true := H
             have A170 := Aside0.mk A1700
             clear A1700
             replace H := Option.bind_eq_some_iff.mp H
             obtain ⟨t492, A1710, H⟩ := H
             replace H : ((impl_WithoutTrie.f t489 t492).bind fun bt495 => ((laws_eqTrie.f kj106 bt495.1 t454).bind fun t500 => (if t500 = true then (laws_FnExactWithoutTrie.j2 kj106 t486 (bt495.2 != t457) t487) else (laws_FnExactWithoutTrie.j2 kj106 t486 true t487)))) = some true := H
             have A171 := Aside0.mk A1710
             clear A1710
             replace H := Option.bind_eq_some_iff.mp H
             obtain ⟨⟨t495, t498⟩, A1720, H⟩ := H
             replace H : ((laws_eqTrie.f kj106 t495 t454).bind fun t500 => (if t500 = true then (laws_FnExactWithoutTrie.j2 kj106 t486 (t498 != t457) t487) else (laws_FnExactWithoutTrie.j2 kj106 t486 true t487))) = some true := H
             have A172 := Aside0.mk A1720
             clear A1720
             have HC173 := Aside0.mk H
             clear H
             have hnb174 := NB471_444.out
             have hnc174 := NB444_471.out
             have hnb175 := NB471_445.out
             have hnc175 := NB445_471.out
             have hnb176 := NB471_458.out
             have hnc176 := NB458_471.out
             have hnb177 := NB471_462.out
             have hnc177 := NB462_471.out
             have hnb178 := NB471_466.out
             have hnc178 := NB466_471.out
             have hcz179_0 : wc.cell? ⟨gb471, 0, none⟩ = some (.slice Ao65 t467.length co65) := (blk_cell BK471.out 0).trans rfl
             have hfz179_0 := blk_frozen BK471.out 0
             try go_wp2_with (first | ((with_reducible refine gate_callee (f := 10) rfl ?_); refine goesL_ (some 85) rfl rfl Try.func10 (by kernel_rfl) rfl #[.agg #[.slice Ao65 t467.length co65], .int .i64 1] rfl (by (try simp only [List.map_toArray, List.map_cons, List.map_nil]); first | done | rfl | (simp only [List.length_drop, List.length_take]; rfl)) ?_; (with_reducible refine (laws_markTrie.calls kj106 (fun k_ => some k_ = (.slice Ao65 t467.length co65 : Value).ownBlock) (.slice Ao65 t467.length co65) t467 1 t486 t487 w _ ?side1 ?side2 A157.out).mono ?_); (case side1 => repeat (first | (with_reducible first | exact HB.out | apply below_alloc | apply pw_below_drewN | apply below_drew1 | refine below_set ?_ GE444.out | refine below_set ?_ GE445.out | refine below_set ?_ GE458.out | refine below_set ?_ GE462.out | refine below_set ?_ GE466.out | refine below_set ?_ GE471.out) | exact HB.out)); (case side2 => exact Kd.R_tight rfl HO_472000.out); rintro e w180 ⟨rfl, hy0, hb, hkp⟩; refine ⟨_, rfl, ?_⟩; have n0_ := Aside0.mk (Kd.R_mono (ok' := fun k_ => some k_ ≠ (.slice Ao47 t482.length co47 : Value).ownBlock ∧ some k_ ≠ (.slice Ao56 t484.length co56 : Value).ownBlock ∧ some k_ ≠ (.slice Ao65 t467.length co65 : Value).ownBlock) (Kd.R_keptB (HO_459000.out) hkp (fun k_ hk_ hs_ => (hk_.2.2) hs_)) (fun k_ hk_ => ⟨hk_.1.1, hk_.1.2.1, hk_.1.2.2⟩)); have n1_ := Aside0.mk (Kd.R_mono (ok' := fun k_ => some k_ ≠ (.slice Ao41 t454.length co41 : Value).ownBlock ∧ some k_ ≠ (.slice Ao56 t484.length co56 : Value).ownBlock ∧ some k_ ≠ (.slice Ao65 t467.length co65 : Value).ownBlock) (Kd.R_keptB (HO_463000.out) hkp (fun k_ hk_ hs_ => (hk_.2.2) hs_)) (fun k_ hk_ => ⟨hk_.1.1, hk_.1.2.1, hk_.1.2.2⟩)); have n2_ := Aside0.mk (Kd.R_mono (ok' := fun k_ => some k_ ≠ (.slice Ao41 t454.length co41 : Value).ownBlock ∧ some k_ ≠ (.slice Ao47 t482.length co47 : Value).ownBlock ∧ some k_ ≠ (.slice Ao65 t467.length co65 : Value).ownBlock) (Kd.R_keptB (HO_467000.out) hkp (fun k_ hk_ hs_ => (hk_.2.2) hs_)) (fun k_ hk_ => ⟨hk_.1.1, hk_.1.2.1, hk_.1.2.2⟩)); have n3_ := Aside0.mk (Kd.R_reok rfl hy0 (fun k_ e_ => HO_472000.out.1 k_ e_)); have n4_ := Aside0.mk (blk_kept (by (with_reducible repeat (first | refine blk_drewN ?_ _ | refine blk_drew ?_ | refine blk_alloc ?_ _)); exact BK444.out) hkp (fun hs_ => (fun e_ => (Kd.R_ne HO_472000.out BK444.out (by decide)) e_) hs_)); have n5_ := Aside0.mk (blk_kept (by (with_reducible repeat (first | refine blk_drewN ?_ _ | refine blk_drew ?_ | refine blk_alloc ?_ _)); exact BK445.out) hkp (fun hs_ => (fun e_ => (Kd.R_ne HO_472000.out BK445.out (by decide)) e_) hs_)); have n6_ := Aside0.mk (blk_kept (by (with_reducible repeat (first | refine blk_drewN ?_ _ | refine blk_drew ?_ | refine blk_alloc ?_ _)); exact BK458.out) hkp (fun hs_ => (fun e_ => (Kd.R_ne HO_472000.out BK458.out (by decide)) e_) hs_)); have n7_ := Aside0.mk (blk_kept (by (with_reducible repeat (first | refine blk_drewN ?_ _ | refine blk_drew ?_ | refine blk_alloc ?_ _)); exact BK462.out) hkp (fun hs_ => (fun e_ => (Kd.R_ne HO_472000.out BK462.out (by decide)) e_) hs_)); have n8_ := Aside0.mk (blk_kept (by (with_reducible repeat (first | refine blk_drewN ?_ _ | refine blk_drew ?_ | refine blk_alloc ?_ _)); exact BK466.out) hkp (fun hs_ => (fun e_ => (Kd.R_ne HO_472000.out BK466.out (by decide)) e_) hs_)); have n9_ := Aside0.mk (blk_kept (by (with_reducible repeat (first | refine blk_drewN ?_ _ | refine blk_drew ?_ | refine blk_alloc ?_ _)); exact BK471.out) hkp (fun hs_ => (fun e_ => (Kd.R_ne HO_472000.out BK471.out (by decide)) e_) hs_)); have n10_ := Aside0.mk (hb); clear HO_459000; clear HO_463000; clear HO_467000; clear HO_472000; clear BK444; clear BK445; clear BK458; clear BK462; clear BK466; clear BK471; clear HB; have HO_459000 := n0_; have HO_463000 := n1_; have HO_467000 := n2_; have HO_472000 := n3_; have BK444 := n4_; have BK445 := n5_; have BK458 := n6_; have BK462 := n7_; have BK466 := n8_; have BK471 := n9_; have HB := n10_; clear n0_ n1_ n2_ n3_ n4_ n5_ n6_ n7_ n8_ n9_ n10_; (try clear hb); (try clear hkp); (try clear hy0); have hcz181_0 : w180.cell? ⟨gb471, 0, none⟩ = some (.slice Ao65 t467.length co65) := (blk_cell BK471.out 0).trans rfl; have hfz181_0 := blk_frozen BK471.out 0) | ((with_reducible refine gate_callee (f := 11) rfl ?_); refine goesL_ (some 88) rfl rfl Try.func11 (by kernel_rfl) rfl #[.agg #[.slice Ao65 t487.length co65], .int .i64 1] rfl (by (try simp only [List.map_toArray, List.map_cons, List.map_nil]); first | done | (rw [show t487.length = t467.length from (Kd.R_reads' HO_472000.out).1.symm] <;> rfl) | rfl | (simp only [List.length_drop, List.length_take]; rfl)) ?_; (with_reducible refine (laws_heldTrie.calls kj106 _ _ t487 1 t488 _ ?side1 ?side2 A158.out).mono ?_); (case side1 => repeat (first | exact (Kd.R_reads' HO_472000.out).2.2 | (with_reducible refine Kd.C_alloc ?_ _) | (with_reducible refine Kd.C_drewN ?_ _) | (with_reducible refine Kd.C_drew ?_))); (case side2 => rw [show t487.length = t467.length from (Kd.R_reads' HO_472000.out).1.symm]; exact (Kd.R_reads' HO_472000.out).2.1); rintro e w182 ⟨rfl, hb⟩; refine ⟨_, rfl, ?_⟩; have n0_ := Aside0.mk (Kd.R_below (by (with_reducible repeat (first | apply Kd.R_alloc | apply Kd.R_drewN | apply Kd.R_drew)); exact HO_459000.out) hb); have n1_ := Aside0.mk (Kd.R_below (by (with_reducible repeat (first | apply Kd.R_alloc | apply Kd.R_drewN | apply Kd.R_drew)); exact HO_463000.out) hb); have n2_ := Aside0.mk (Kd.R_below (by (with_reducible repeat (first | apply Kd.R_alloc | apply Kd.R_drewN | apply Kd.R_drew)); exact HO_467000.out) hb); have n3_ := Aside0.mk (Kd.R_below (by (with_reducible repeat (first | apply Kd.R_alloc | apply Kd.R_drewN | apply Kd.R_drew)); exact HO_472000.out) hb); have n4_ := Aside0.mk (blk_below (g := gb444) (o := .cells #[.slice A0_0 l0_0.length c0_0] 32 (0, 0)) (by (with_reducible repeat (first | refine blk_drewN ?_ _ | refine blk_drew ?_ | refine blk_alloc ?_ _)); exact BK444.out) hb); have n5_ := Aside0.mk (blk_below (g := gb445) (o := .cells #[.slice A1_0 l1_0.length c1_0] 32 (0, 0)) (by (with_reducible repeat (first | refine blk_drewN ?_ _ | refine blk_drew ?_ | refine blk_alloc ?_ _)); exact BK445.out) hb); have n6_ := Aside0.mk (blk_below (g := gb458) (o := .cells #[.slice Ao41 t454.length co41] 24 (0, 0)) (by (with_reducible repeat (first | refine blk_drewN ?_ _ | refine blk_drew ?_ | refine blk_alloc ?_ _)); exact BK458.out) hb); have n7_ := Aside0.mk (blk_below (g := gb462) (o := .cells #[.slice Ao47 t482.length co47] 24 (0, 0)) (by (with_reducible repeat (first | refine blk_drewN ?_ _ | refine blk_drew ?_ | refine blk_alloc ?_ _)); exact BK462.out) hb); have n8_ := Aside0.mk (blk_below (g := gb466) (o := .cells #[.slice Ao56 t484.length co56] 24 (0, 0)) (by (with_reducible repeat (first | refine blk_drewN ?_ _ | refine blk_drew ?_ | refine blk_alloc ?_ _)); exact BK466.out) hb); have n9_ := Aside0.mk (blk_below (g := gb471) (o := .cells #[.slice Ao65 t467.length co65] 24 (0, 0)) (by (with_reducible repeat (first | refine blk_drewN ?_ _ | refine blk_drew ?_ | refine blk_alloc ?_ _)); exact BK471.out) hb); have n10_ := Aside0.mk (below_step (by repeat (first | (with_reducible first | exact HB.out | apply below_alloc | apply pw_below_drewN | apply below_drew1 | refine below_set ?_ GE444.out | refine below_set ?_ GE445.out | refine below_set ?_ GE458.out | refine below_set ?_ GE462.out | refine below_set ?_ GE466.out | refine below_set ?_ GE471.out) | exact HB.out)) hb); clear HO_459000; clear HO_463000; clear HO_467000; clear HO_472000; clear BK444; clear BK445; clear BK458; clear BK462; clear BK466; clear BK471; clear HB; have HO_459000 := n0_; have HO_463000 := n1_; have HO_467000 := n2_; have HO_472000 := n3_; have BK444 := n4_; have BK445 := n5_; have BK458 := n6_; have BK462 := n7_; have BK466 := n8_; have BK471 := n9_; have HB := n10_; clear n0_ n1_ n2_ n3_ n4_ n5_ n6_ n7_ n8_ n9_ n10_; (try clear hb); (try clear hb2); (try clear hk); (try clear hi)))
             have n0_ := Aside0.mk (Kd.R_drew HO_459000.out)
             have n1_ := Aside0.mk (Kd.R_drew HO_463000.out)
             have n2_ := Aside0.mk (Kd.R_drew HO_467000.out)
             have n3_ := Aside0.mk (Kd.R_drew HO_472000.out)
             have n4_ := Aside0.mk (blk_drew BK444.out)
             have n5_ := Aside0.mk (blk_drew BK445.out)
             have n6_ := Aside0.mk (blk_drew BK458.out)
             have n7_ := Aside0.mk (blk_drew BK462.out)
             have n8_ := Aside0.mk (blk_drew BK466.out)
             have n9_ := Aside0.mk (blk_drew BK471.out)
             have n10_ := Aside0.mk (below_drew1 HB.out)
             revert n0_ n1_ n2_ n3_ n4_ n5_ n6_ n7_ n8_ n9_ n10_
             clear HO_459000 HO_463000 HO_467000 HO_472000 BK444 BK445 BK458 BK462 BK466 BK471 HB
             intro HO_459000 HO_463000 HO_467000 HO_472000 BK444 BK445 BK458 BK462 BK466 BK471 HB
             refine start_ (n := 11) (S := fun w' => w'.cell? ⟨gb444, 0, none⟩ = some (.slice A0_0 l0_0.length c0_0) ∧ w'.cell? ⟨gb445, 0, none⟩ = some (.slice A1_0 l1_0.length c1_0)) (ds := []) #[false, false, false, false, false, false, false, false, false, false, false] (by kernel_rfl) rfl rfl ⟨(blk_cell BK444.out 0).trans rfl, (blk_cell BK445.out 0).trans rfl⟩ (fun hHeld => ?_); refine with_tabW laws_FnExactWithoutTrie.tab31 laws_FnExactWithoutTrie.bits31 (fun HT_ HW_ => ?_)
             generalize w182.drew = w183 at HO_459000 HO_463000 HO_467000 HO_472000 BK444 BK445 BK458 BK462 BK466 BK471 HB hHeld ⊢
             refine take_ (i := 0) (N := some 95) (v := ?_) (a' := ?_) #[true, false, false, false, false, false, false, false, false, false, false] rfl rfl (take_ofW HT_.out HW_.out (by kernel_rfl)) (fun _ _ _ h => h) (Or.inl ⟨by rfl, ?_⟩) hHeld ?_ ?_
             rotate_left
             ·rintro w' ⟨s0, s1⟩
              go_simp
              with_reducible rfl
             rotate_left
             ·simp only [Act.put, List.setIfInBounds_toArray, List.set_cons_zero, List.set_cons_succ, i64_w, i32_w]
              rfl
             refine take_ (i := 2) (N := some 97) (v := ?_) (a' := ?_) #[true, false, true, false, false, false, false, false, false, false, false] rfl rfl (take_ofW HT_.out HW_.out (by kernel_rfl)) (fun _ _ _ h => h) (Or.inl ⟨by rfl, ?_⟩) hHeld ?_ ?_
             rotate_left
             ·rintro w' ⟨s0, s1⟩
              go_simp
              with_reducible rfl
             rotate_left
             ·simp only [Act.put, List.setIfInBounds_toArray, List.set_cons_zero, List.set_cons_succ, i64_w, i32_w]
              rfl
             refine join_ (σ := Value × Value × Value × Nat) 2 #[true, true, true, true, true, true, true, true, true, false, false] (fun s_ => [(96, .agg #[s_.1]), (98, .agg #[s_.2.1]), (99, .tuple #[.agg #[s_.2.2.1], .bool t498]), (15, .pointer (some ⟨s_.2.2.2, 0, none⟩)), (94, .tuple #[.agg #[s_.2.2.1], .bool t498]), (100, .agg #[s_.2.2.1]), (101, .bool t498)]) (fun s_ w' => (w'.cell? ⟨gb444, 0, none⟩ = some (.slice A0_0 l0_0.length c0_0) ∧ w'.cell? ⟨gb445, 0, none⟩ = some (.slice A1_0 l1_0.length c1_0)) ∧ (Kd.R k67 67 w' w.heap.size (fun k_ => some k_ ≠ (s_.2.1 : Value).ownBlock ∧ some k_ ≠ (s_.2.2.1 : Value).ownBlock ∧ some k_ ≠ (.slice Ao41 t454.length co41 : Value).ownBlock ∧ some k_ ≠ (.slice Ao47 t482.length co47 : Value).ownBlock ∧ some k_ ≠ (.slice Ao56 t484.length co56 : Value).ownBlock ∧ some k_ ≠ (.slice Ao65 t467.length co65 : Value).ownBlock) s_.1 t489) ∧ (Kd.R k67 67 w' w.heap.size (fun k_ => some k_ ≠ (s_.1 : Value).ownBlock ∧ some k_ ≠ (s_.2.2.1 : Value).ownBlock ∧ some k_ ≠ (.slice Ao41 t454.length co41 : Value).ownBlock ∧ some k_ ≠ (.slice Ao47 t482.length co47 : Value).ownBlock ∧ some k_ ≠ (.slice Ao56 t484.length co56 : Value).ownBlock ∧ some k_ ≠ (.slice Ao65 t467.length co65 : Value).ownBlock) s_.2.1 t492) ∧ (Kd.R k67 67 w' w.heap.size (fun k_ => some k_ ≠ (s_.1 : Value).ownBlock ∧ some k_ ≠ (s_.2.1 : Value).ownBlock ∧ some k_ ≠ (.slice Ao41 t454.length co41 : Value).ownBlock ∧ some k_ ≠ (.slice Ao47 t482.length co47 : Value).ownBlock ∧ some k_ ≠ (.slice Ao56 t484.length co56 : Value).ownBlock ∧ some k_ ≠ (.slice Ao65 t467.length co65 : Value).ownBlock) s_.2.2.1 t495) ∧ (Kd.R k67 67 w' w.heap.size (fun k_ => some k_ ≠ (s_.1 : Value).ownBlock ∧ some k_ ≠ (s_.2.1 : Value).ownBlock ∧ some k_ ≠ (s_.2.2.1 : Value).ownBlock ∧ some k_ ≠ (.slice Ao47 t482.length co47 : Value).ownBlock ∧ some k_ ≠ (.slice Ao56 t484.length co56 : Value).ownBlock ∧ some k_ ≠ (.slice Ao65 t467.length co65 : Value).ownBlock) (.slice Ao41 t454.length co41) t454) ∧ (Kd.R k67 67 w' w.heap.size (fun k_ => some k_ ≠ (s_.1 : Value).ownBlock ∧ some k_ ≠ (s_.2.1 : Value).ownBlock ∧ some k_ ≠ (s_.2.2.1 : Value).ownBlock ∧ some k_ ≠ (.slice Ao41 t454.length co41 : Value).ownBlock ∧ some k_ ≠ (.slice Ao56 t484.length co56 : Value).ownBlock ∧ some k_ ≠ (.slice Ao65 t467.length co65 : Value).ownBlock) (.slice Ao47 t482.length co47) t482) ∧ (Kd.R k67 67 w' w.heap.size (fun k_ => some k_ ≠ (s_.1 : Value).ownBlock ∧ some k_ ≠ (s_.2.1 : Value).ownBlock ∧ some k_ ≠ (s_.2.2.1 : Value).ownBlock ∧ some k_ ≠ (.slice Ao41 t454.length co41 : Value).ownBlock ∧ some k_ ≠ (.slice Ao47 t482.length co47 : Value).ownBlock ∧ some k_ ≠ (.slice Ao65 t467.length co65 : Value).ownBlock) (.slice Ao56 t484.length co56) t484) ∧ (Kd.R k67 67 w' w.heap.size (fun k_ => some k_ ≠ (s_.1 : Value).ownBlock ∧ some k_ ≠ (s_.2.1 : Value).ownBlock ∧ some k_ ≠ (s_.2.2.1 : Value).ownBlock ∧ some k_ ≠ (.slice Ao41 t454.length co41 : Value).ownBlock ∧ some k_ ≠ (.slice Ao47 t482.length co47 : Value).ownBlock ∧ some k_ ≠ (.slice Ao56 t484.length co56 : Value).ownBlock) (.slice Ao65 t467.length co65) t487) ∧ (w'.heap[gb444]? = some (.cells #[.slice A0_0 l0_0.length c0_0] 32 (0, 0))) ∧ (w'.heap[gb445]? = some (.cells #[.slice A1_0 l1_0.length c1_0] 32 (0, 0))) ∧ (w'.heap[gb458]? = some (.cells #[.slice Ao41 t454.length co41] 24 (0, 0))) ∧ (w'.heap[gb462]? = some (.cells #[.slice Ao47 t482.length co47] 24 (0, 0))) ∧ (w'.heap[gb466]? = some (.cells #[.slice Ao56 t484.length co56] 24 (0, 0))) ∧ (w'.heap[gb471]? = some (.cells #[.slice Ao65 t467.length co65] 24 (0, 0))) ∧ (w'.heap[s_.2.2.2]? = some (.cells #[.slice none 0 0] 24 (0, 0))) ∧ (w.heap.size ≤ s_.2.2.2) ∧ (w.heap.size ≤ s_.2.2.2) ∧ (gb444 ≠ s_.2.2.2) ∧ (s_.2.2.2 ≠ gb444) ∧ (gb445 ≠ s_.2.2.2) ∧ (s_.2.2.2 ≠ gb445) ∧ (gb458 ≠ s_.2.2.2) ∧ (s_.2.2.2 ≠ gb458) ∧ (gb462 ≠ s_.2.2.2) ∧ (s_.2.2.2 ≠ gb462) ∧ (gb466 ≠ s_.2.2.2) ∧ (s_.2.2.2 ≠ gb466) ∧ (gb471 ≠ s_.2.2.2) ∧ (s_.2.2.2 ≠ gb471) ∧ (Below w.heap.size w w')) ?_ ?_
             rotate_left
             ·intro hCont
              refine two_ (i := 1) (j := 8) (Ni := some 96) (Nj := some 15) #[true, true, true, false, false, false, false, false, false, false, false] #[true, false, true, false, false, false, false, false, true, false, false] rfl rfl rfl rfl (two_of HT_.out (by kernel_rfl)) (by decide) (by decide) (fun K hK => ?_) (fun K hK => ?_)
              ·skip
               refine goes_ Try.func14 (by kernel_rfl) rfl #[.agg #[.slice A0_0 l0_0.length c0_0]] (by rfl) rfl rfl (by (try simp only [List.map_toArray, List.map_cons, List.map_nil]); first | done | rfl | (simp only [List.length_drop, List.length_take]; rfl)) ?_
               with_reducible refine (laws_toTrie.calls kj106 _ _ l0_0 t489 _ ?side1 ?side2 A170.out).mono ?_
               (case side1 => exact (Kd.C_below HR0_0.out HB.out))
               (case side2 => exact HC0_0.out)
               rintro e w184 ⟨v490, rfl, ho0, hb⟩
               refine ⟨_, rfl, ?_⟩
               have n0_ := Aside0.mk (Kd.R_elder' HO_459000.out (Kd.R_base ho0) hb)
               have n1_ := Aside0.mk (Kd.R_elder' HO_463000.out (Kd.R_base ho0) hb)
               have n2_ := Aside0.mk (Kd.R_elder' HO_467000.out (Kd.R_base ho0) hb)
               have n3_ := Aside0.mk (Kd.R_elder' HO_472000.out (Kd.R_base ho0) hb)
               have n4_ := Aside0.mk (Kd.R_lower (Kd.R_new' (Kd.R_new' (Kd.R_new' (Kd.R_new' ho0 (Kd.R_lt HO_459000.out)) (Kd.R_lt HO_463000.out)) (Kd.R_lt HO_467000.out)) (Kd.R_lt HO_472000.out)) (below_size HB.out))
               have n5_ := Aside0.mk (blk_below BK444.out hb)
               have n6_ := Aside0.mk (blk_below BK445.out hb)
               have n7_ := Aside0.mk (blk_below BK458.out hb)
               have n8_ := Aside0.mk (blk_below BK462.out hb)
               have n9_ := Aside0.mk (blk_below BK466.out hb)
               have n10_ := Aside0.mk (blk_below BK471.out hb)
               have n11_ := Aside0.mk (below_step HB.out hb)
               revert n0_ n1_ n2_ n3_ n4_ n5_ n6_ n7_ n8_ n9_ n10_ n11_
               clear HO_459000 HO_463000 HO_467000 HO_472000 BK444 BK445 BK458 BK462 BK466 BK471 HB
               intro HO_459000 HO_463000 HO_467000 HO_472000 HO491 BK444 BK445 BK458 BK462 BK466 BK471 HB
               (try clear hb)
               (try clear hb2)
               (try clear hk)
               (try clear hi)
               (try clear ho0)
               refine hK.out _ _ ⟨(blk_cell BK444.out 0).trans rfl, (blk_cell BK445.out 0).trans rfl⟩ (fun hHeld => ?_)
               clear hK K
               refine norm_ (a' := ?_) ?_ ?_
               rotate_left
               ·show Act.put _ (some 96) _ = _
                simp only [Act.put, List.setIfInBounds_toArray, List.set_cons_zero, List.set_cons_succ, i64_w, i32_w]
                rfl
               refine two_ (i := 3) (j := 8) (Ni := some 98) (Nj := some 15) #[true, true, true, true, false, false, false, false, false, false, false] #[true, true, true, false, false, false, false, false, true, false, false] rfl rfl rfl rfl (two_of HT_.out (by kernel_rfl)) (by decide) (by decide) (fun K hK => ?_) (fun K hK => ?_)
               ·skip
                refine goes_ Try.func14 (by kernel_rfl) rfl #[.agg #[.slice A1_0 l1_0.length c1_0]] (by rfl) rfl rfl (by (try simp only [List.map_toArray, List.map_cons, List.map_nil]); first | done | rfl | (simp only [List.length_drop, List.length_take]; rfl)) ?_
                with_reducible refine (laws_toTrie.calls kj106 _ _ l1_0 t492 _ ?side1 ?side2 A171.out).mono ?_
                (case side1 => exact (Kd.C_below HR1_0.out HB.out))
                (case side2 => exact HC1_0.out)
                rintro e w185 ⟨v493, rfl, ho0, hb⟩
                refine ⟨_, rfl, ?_⟩
                have n0_ := Aside0.mk (Kd.R_elder' HO_459000.out (Kd.R_base ho0) hb)
                have n1_ := Aside0.mk (Kd.R_elder' HO_463000.out (Kd.R_base ho0) hb)
                have n2_ := Aside0.mk (Kd.R_elder' HO_467000.out (Kd.R_base ho0) hb)
                have n3_ := Aside0.mk (Kd.R_elder' HO_472000.out (Kd.R_base ho0) hb)
                have n4_ := Aside0.mk (Kd.R_elder' HO491.out (Kd.R_base ho0) hb)
                have n5_ := Aside0.mk (Kd.R_lower (Kd.R_new' (Kd.R_new' (Kd.R_new' (Kd.R_new' (Kd.R_new' ho0 (Kd.R_lt HO_459000.out)) (Kd.R_lt HO_463000.out)) (Kd.R_lt HO_467000.out)) (Kd.R_lt HO_472000.out)) (Kd.R_lt HO491.out)) (below_size HB.out))
                have n6_ := Aside0.mk (blk_below BK444.out hb)
                have n7_ := Aside0.mk (blk_below BK445.out hb)
                have n8_ := Aside0.mk (blk_below BK458.out hb)
                have n9_ := Aside0.mk (blk_below BK462.out hb)
                have n10_ := Aside0.mk (blk_below BK466.out hb)
                have n11_ := Aside0.mk (blk_below BK471.out hb)
                have n12_ := Aside0.mk (below_step HB.out hb)
                revert n0_ n1_ n2_ n3_ n4_ n5_ n6_ n7_ n8_ n9_ n10_ n11_ n12_
                clear HO_459000 HO_463000 HO_467000 HO_472000 HO491 BK444 BK445 BK458 BK462 BK466 BK471 HB
                intro HO_459000 HO_463000 HO_467000 HO_472000 HO491 HO494 BK444 BK445 BK458 BK462 BK466 BK471 HB
                (try clear hb)
                (try clear hb2)
                (try clear hk)
                (try clear hi)
                (try clear ho0)
                obtain ⟨Ao186, co186, eo186⟩ := Kd.R_slice HO491.out
                (first | subst eo186 | (injection eo186 with f1_ f2_ f3_; have f4_ := f1_.symm; have f5_ := f3_.symm; clear f1_ f2_ f3_; subst f4_; subst f5_))
                obtain ⟨Ao187, co187, eo187⟩ := Kd.R_slice HO494.out
                (first | subst eo187 | (injection eo187 with f1_ f2_ f3_; have f4_ := f1_.symm; have f5_ := f3_.symm; clear f1_ f2_ f3_; subst f4_; subst f5_))
                refine hK.out _ _ ⟨(blk_cell BK444.out 0).trans rfl, (blk_cell BK445.out 0).trans rfl⟩ (fun hHeld => ?_)
                clear hK K
                refine norm_ (a' := ?_) ?_ ?_
                rotate_left
                ·show Act.put _ (some 98) _ = _
                 simp only [Act.put, List.setIfInBounds_toArray, List.set_cons_zero, List.set_cons_succ, i64_w, i32_w]
                 rfl
                refine two_ (i := 4) (j := 8) (Ni := some 99) (Nj := some 15) #[true, true, true, true, true, false, false, false, false, false, false] #[true, true, true, true, false, false, false, false, true, false, false] rfl rfl rfl rfl (two_of HT_.out (by kernel_rfl)) (by decide) (by decide) (fun K hK => ?_) (fun K hK => ?_)
                ·skip
                 refine goes_ Try.func17 (by kernel_rfl) rfl #[.agg #[.slice Ao186 t489.length co186], .agg #[.slice Ao187 t492.length co187]] (by rfl) rfl rfl (by (try simp only [List.map_toArray, List.map_cons, List.map_nil]); first | done | rfl | (simp only [List.length_drop, List.length_take]; rfl)) ?_
                 with_reducible refine (impl_WithoutTrie.calls _ _ t489 _ _ t492 t495 t498 _ ?side1 ?side2 ?side3 ?side4 A172.out).mono ?_
                 (case side1 => exact (Kd.R_reads' HO491.out).2.2)
                 (case side2 => exact (Kd.R_reads' HO491.out).2.1)
                 (case side3 => exact (Kd.R_reads' HO494.out).2.2)
                 (case side4 => exact (Kd.R_reads' HO494.out).2.1)
                 rintro e w188 ⟨v496, rfl, ho0, hb⟩
                 refine ⟨_, rfl, ?_⟩
                 have n0_ := Aside0.mk (Kd.R_elder' HO_459000.out (Kd.R_base ho0) hb)
                 have n1_ := Aside0.mk (Kd.R_elder' HO_463000.out (Kd.R_base ho0) hb)
                 have n2_ := Aside0.mk (Kd.R_elder' HO_467000.out (Kd.R_base ho0) hb)
                 have n3_ := Aside0.mk (Kd.R_elder' HO_472000.out (Kd.R_base ho0) hb)
                 have n4_ := Aside0.mk (Kd.R_elder' HO491.out (Kd.R_base ho0) hb)
                 have n5_ := Aside0.mk (Kd.R_elder' HO494.out (Kd.R_base ho0) hb)
                 have n6_ := Aside0.mk (Kd.R_lower (Kd.R_new' (Kd.R_new' (Kd.R_new' (Kd.R_new' (Kd.R_new' (Kd.R_new' ho0 (Kd.R_lt HO_459000.out)) (Kd.R_lt HO_463000.out)) (Kd.R_lt HO_467000.out)) (Kd.R_lt HO_472000.out)) (Kd.R_lt HO491.out)) (Kd.R_lt HO494.out)) (below_size HB.out))
                 have n7_ := Aside0.mk (blk_below BK444.out hb)
                 have n8_ := Aside0.mk (blk_below BK445.out hb)
                 have n9_ := Aside0.mk (blk_below BK458.out hb)
                 have n10_ := Aside0.mk (blk_below BK462.out hb)
                 have n11_ := Aside0.mk (blk_below BK466.out hb)
                 have n12_ := Aside0.mk (blk_below BK471.out hb)
                 have n13_ := Aside0.mk (below_step HB.out hb)
                 revert n0_ n1_ n2_ n3_ n4_ n5_ n6_ n7_ n8_ n9_ n10_ n11_ n12_ n13_
                 clear HO_459000 HO_463000 HO_467000 HO_472000 HO491 HO494 BK444 BK445 BK458 BK462 BK466 BK471 HB
                 intro HO_459000 HO_463000 HO_467000 HO_472000 HO491 HO494 HO497 BK444 BK445 BK458 BK462 BK466 BK471 HB
                 (try clear hb)
                 (try clear hb2)
                 (try clear hk)
                 (try clear hi)
                 (try clear ho0)
                 refine hK.out _ _ ⟨(blk_cell BK444.out 0).trans rfl, (blk_cell BK445.out 0).trans rfl⟩ (fun hHeld => ?_)
                 clear hK K
                 refine norm_ (a' := ?_) ?_ ?_
                 rotate_left
                 ·show Act.put _ (some 99) _ = _
                  simp only [Act.put, List.setIfInBounds_toArray, List.set_cons_zero, List.set_cons_succ, i64_w, i32_w]
                  rfl
                 refine pure_ (i := 5) (N := some 94) (v := ?_) (a' := ?_) #[true, true, true, true, true, true, false, false, false, false, false] rfl rfl (any_of HT_.out (by kernel_rfl)) (fun _ _ _ h => h) (Or.inl ⟨by rfl, ?_⟩) ?_ ?_
                 rotate_left
                 ·intro w'
                  go_simp
                  with_reducible rfl
                 rotate_left
                 ·simp only [Act.put, List.setIfInBounds_toArray, List.set_cons_zero, List.set_cons_succ, i64_w, i32_w]
                  rfl
                 refine pure_ (i := 6) (N := some 100) (v := ?_) (a' := ?_) #[true, true, true, true, true, true, true, false, false, false, false] rfl rfl (any_of HT_.out (by kernel_rfl)) (fun _ _ _ h => h) (Or.inl ⟨by rfl, ?_⟩) ?_ ?_
                 rotate_left
                 ·intro w'
                  go_simp
                  with_reducible rfl
                 rotate_left
                 ·simp only [Act.put, List.setIfInBounds_toArray, List.set_cons_zero, List.set_cons_succ, i64_w, i32_w]
                  rfl
                 refine pure_ (i := 7) (N := some 101) (v := ?_) (a' := ?_) #[true, true, true, true, true, true, true, true, false, false, false] rfl rfl (any_of HT_.out (by kernel_rfl)) (fun _ _ _ h => h) (Or.inl ⟨by rfl, ?_⟩) ?_ ?_
                 rotate_left
                 ·intro w'
                  go_simp
                  with_reducible rfl
                 rotate_left
                 ·simp only [Act.put, List.setIfInBounds_toArray, List.set_cons_zero, List.set_cons_succ, i64_w, i32_w]
                  rfl
                 refine one_ (i := 8) (N := some 15) #[true, true, true, true, true, true, true, true, true, false, false] rfl rfl (one_of HT_.out (by kernel_rfl)) (by decide) (fun K hK => ?_)
                 refine box_step ?hg (N := 15) ?hd (cs := #[.slice none 0 0]) (t := 24) ?hr ?_; (case hd => rfl); (case hg => rfl); (case hr => first | (go_simp; done) | (go_simp; rfl))
                 intro gb499 hg w189 hbox hb
                 have n0_ := Aside0.mk (Kd.R_below HO_459000.out hb)
                 have n1_ := Aside0.mk (Kd.R_below HO_463000.out hb)
                 have n2_ := Aside0.mk (Kd.R_below HO_467000.out hb)
                 have n3_ := Aside0.mk (Kd.R_below HO_472000.out hb)
                 have n4_ := Aside0.mk (Kd.R_below HO491.out hb)
                 have n5_ := Aside0.mk (Kd.R_below HO494.out hb)
                 have n6_ := Aside0.mk (Kd.R_below HO497.out hb)
                 have n7_ := Aside0.mk (blk_below BK444.out hb)
                 have n8_ := Aside0.mk (blk_below BK445.out hb)
                 have n9_ := Aside0.mk (blk_below BK458.out hb)
                 have n10_ := Aside0.mk (blk_below BK462.out hb)
                 have n11_ := Aside0.mk (blk_below BK466.out hb)
                 have n12_ := Aside0.mk (blk_below BK471.out hb)
                 have n13_ := Aside0.mk (below_step HB.out hb)
                 have n14_ := Aside0.mk (hbox)
                 have n15_ := Aside0.mk ((by rw [hg]; exact (below_size HB.out) : w.heap.size ≤ gb499))
                 have n16_ := Aside0.mk ((by rw [hg]; exact (below_size HB.out) : w.heap.size ≤ gb499))
                 have n17_ := Aside0.mk ((by rw [hg]; exact Nat.ne_of_lt (blk_lt BK444.out) : gb444 ≠ gb499))
                 have n18_ := Aside0.mk ((by rw [hg]; exact Nat.ne_of_gt (blk_lt BK444.out) : gb499 ≠ gb444))
                 have n19_ := Aside0.mk ((by rw [hg]; exact Nat.ne_of_lt (blk_lt BK445.out) : gb445 ≠ gb499))
                 have n20_ := Aside0.mk ((by rw [hg]; exact Nat.ne_of_gt (blk_lt BK445.out) : gb499 ≠ gb445))
                 have n21_ := Aside0.mk ((by rw [hg]; exact Nat.ne_of_lt (blk_lt BK458.out) : gb458 ≠ gb499))
                 have n22_ := Aside0.mk ((by rw [hg]; exact Nat.ne_of_gt (blk_lt BK458.out) : gb499 ≠ gb458))
                 have n23_ := Aside0.mk ((by rw [hg]; exact Nat.ne_of_lt (blk_lt BK462.out) : gb462 ≠ gb499))
                 have n24_ := Aside0.mk ((by rw [hg]; exact Nat.ne_of_gt (blk_lt BK462.out) : gb499 ≠ gb462))
                 have n25_ := Aside0.mk ((by rw [hg]; exact Nat.ne_of_lt (blk_lt BK466.out) : gb466 ≠ gb499))
                 have n26_ := Aside0.mk ((by rw [hg]; exact Nat.ne_of_gt (blk_lt BK466.out) : gb499 ≠ gb466))
                 have n27_ := Aside0.mk ((by rw [hg]; exact Nat.ne_of_lt (blk_lt BK471.out) : gb471 ≠ gb499))
                 have n28_ := Aside0.mk ((by rw [hg]; exact Nat.ne_of_gt (blk_lt BK471.out) : gb499 ≠ gb471))
                 revert n0_ n1_ n2_ n3_ n4_ n5_ n6_ n7_ n8_ n9_ n10_ n11_ n12_ n13_ n14_ n15_ n16_ n17_ n18_ n19_ n20_ n21_ n22_ n23_ n24_ n25_ n26_ n27_ n28_
                 clear HO_459000 HO_463000 HO_467000 HO_472000 HO491 HO494 HO497 BK444 BK445 BK458 BK462 BK466 BK471 HB
                 intro HO_459000 HO_463000 HO_467000 HO_472000 HO491 HO494 HO497 BK444 BK445 BK458 BK462 BK466 BK471 HB BK499 GW499 GE499 NB444_499 NB499_444 NB445_499 NB499_445 NB458_499 NB499_458 NB462_499 NB499_462 NB466_499 NB499_466 NB471_499 NB499_471
                 clear hb hbox hg
                 refine hK.out _ _ ⟨(blk_cell BK444.out 0).trans rfl, (blk_cell BK445.out 0).trans rfl⟩ (fun hHeld => ?_)
                 clear hK K
                 refine norm_ (a' := ?_) ?_ ?_
                 rotate_left
                 ·show Act.put _ (some 15) _ = _
                  simp only [Act.put, List.setIfInBounds_toArray, List.set_cons_zero, List.set_cons_succ, i64_w, i32_w]
                  rfl
                 exact norm_ (by simp only [putAll, Act.put, List.setIfInBounds_toArray, List.set_cons_zero, List.set_cons_succ]) (hCont (.slice Ao186 t489.length co186, .slice Ao187 t492.length co187, v496, gb499) _ ⟨hHeld, (Kd.R_mono HO491.out (fun _ hk => ⟨hk.1.2, ⟨hk.2, ⟨hk.1.1.1.1.1.2, ⟨hk.1.1.1.1.2, ⟨hk.1.1.1.2, hk.1.1.2⟩⟩⟩⟩⟩)), (Kd.R_mono HO494.out (fun _ hk => ⟨hk.1.2, ⟨hk.2, ⟨hk.1.1.1.1.1.2, ⟨hk.1.1.1.1.2, ⟨hk.1.1.1.2, hk.1.1.2⟩⟩⟩⟩⟩)), (Kd.R_mono HO497.out (fun _ hk => ⟨hk.1.2, ⟨hk.2, ⟨hk.1.1.1.1.1.2, ⟨hk.1.1.1.1.2, ⟨hk.1.1.1.2, hk.1.1.2⟩⟩⟩⟩⟩)), (Kd.R_mono HO_459000.out (fun _ hk => ⟨hk.1.1.2, ⟨hk.1.2, ⟨hk.2, ⟨hk.1.1.1.1, ⟨hk.1.1.1.2.1, hk.1.1.1.2.2⟩⟩⟩⟩⟩)), (Kd.R_mono HO_463000.out (fun _ hk => ⟨hk.1.1.2, ⟨hk.1.2, ⟨hk.2, ⟨hk.1.1.1.1, ⟨hk.1.1.1.2.1, hk.1.1.1.2.2⟩⟩⟩⟩⟩)), (Kd.R_mono HO_467000.out (fun _ hk => ⟨hk.1.1.2, ⟨hk.1.2, ⟨hk.2, ⟨hk.1.1.1.1, ⟨hk.1.1.1.2.1, hk.1.1.1.2.2⟩⟩⟩⟩⟩)), (Kd.R_mono HO_472000.out (fun _ hk => ⟨hk.1.1.2, ⟨hk.1.2, ⟨hk.2, ⟨hk.1.1.1.1, ⟨hk.1.1.1.2.1, hk.1.1.1.2.2⟩⟩⟩⟩⟩)), BK444.out, BK445.out, BK458.out, BK462.out, BK466.out, BK471.out, BK499.out, GW499.out, GE499.out, NB444_499.out, NB499_444.out, NB445_499.out, NB499_445.out, NB458_499.out, NB499_458.out, NB462_499.out, NB499_462.out, NB466_499.out, NB499_466.out, NB471_499.out, NB499_471.out, HB.out⟩)
                ·skip
                 refine box_step ?hg (N := 15) ?hd (cs := #[.slice none 0 0]) (t := 24) ?hr ?_; (case hd => rfl); (case hg => rfl); (case hr => first | (go_simp; done) | (go_simp; rfl))
                 intro gb499 hg w186 hbox hb
                 have n0_ := Aside0.mk (Kd.R_below HO_459000.out hb)
                 have n1_ := Aside0.mk (Kd.R_below HO_463000.out hb)
                 have n2_ := Aside0.mk (Kd.R_below HO_467000.out hb)
                 have n3_ := Aside0.mk (Kd.R_below HO_472000.out hb)
                 have n4_ := Aside0.mk (Kd.R_below HO491.out hb)
                 have n5_ := Aside0.mk (Kd.R_below HO494.out hb)
                 have n6_ := Aside0.mk (blk_below BK444.out hb)
                 have n7_ := Aside0.mk (blk_below BK445.out hb)
                 have n8_ := Aside0.mk (blk_below BK458.out hb)
                 have n9_ := Aside0.mk (blk_below BK462.out hb)
                 have n10_ := Aside0.mk (blk_below BK466.out hb)
                 have n11_ := Aside0.mk (blk_below BK471.out hb)
                 have n12_ := Aside0.mk (below_step HB.out hb)
                 have n13_ := Aside0.mk (hbox)
                 have n14_ := Aside0.mk ((by rw [hg]; exact (below_size HB.out) : w.heap.size ≤ gb499))
                 have n15_ := Aside0.mk ((by rw [hg]; exact (below_size HB.out) : w.heap.size ≤ gb499))
                 have n16_ := Aside0.mk ((by rw [hg]; exact Nat.ne_of_lt (blk_lt BK444.out) : gb444 ≠ gb499))
                 have n17_ := Aside0.mk ((by rw [hg]; exact Nat.ne_of_gt (blk_lt BK444.out) : gb499 ≠ gb444))
                 have n18_ := Aside0.mk ((by rw [hg]; exact Nat.ne_of_lt (blk_lt BK445.out) : gb445 ≠ gb499))
                 have n19_ := Aside0.mk ((by rw [hg]; exact Nat.ne_of_gt (blk_lt BK445.out) : gb499 ≠ gb445))
                 have n20_ := Aside0.mk ((by rw [hg]; exact Nat.ne_of_lt (blk_lt BK458.out) : gb458 ≠ gb499))
                 have n21_ := Aside0.mk ((by rw [hg]; exact Nat.ne_of_gt (blk_lt BK458.out) : gb499 ≠ gb458))
                 have n22_ := Aside0.mk ((by rw [hg]; exact Nat.ne_of_lt (blk_lt BK462.out) : gb462 ≠ gb499))
                 have n23_ := Aside0.mk ((by rw [hg]; exact Nat.ne_of_gt (blk_lt BK462.out) : gb499 ≠ gb462))
                 have n24_ := Aside0.mk ((by rw [hg]; exact Nat.ne_of_lt (blk_lt BK466.out) : gb466 ≠ gb499))
                 have n25_ := Aside0.mk ((by rw [hg]; exact Nat.ne_of_gt (blk_lt BK466.out) : gb499 ≠ gb466))
                 have n26_ := Aside0.mk ((by rw [hg]; exact Nat.ne_of_lt (blk_lt BK471.out) : gb471 ≠ gb499))
                 have n27_ := Aside0.mk ((by rw [hg]; exact Nat.ne_of_gt (blk_lt BK471.out) : gb499 ≠ gb471))
                 revert n0_ n1_ n2_ n3_ n4_ n5_ n6_ n7_ n8_ n9_ n10_ n11_ n12_ n13_ n14_ n15_ n16_ n17_ n18_ n19_ n20_ n21_ n22_ n23_ n24_ n25_ n26_ n27_
                 clear HO_459000 HO_463000 HO_467000 HO_472000 HO491 HO494 BK444 BK445 BK458 BK462 BK466 BK471 HB
                 intro HO_459000 HO_463000 HO_467000 HO_472000 HO491 HO494 BK444 BK445 BK458 BK462 BK466 BK471 HB BK499 GW499 GE499 NB444_499 NB499_444 NB445_499 NB499_445 NB458_499 NB499_458 NB462_499 NB499_462 NB466_499 NB499_466 NB471_499 NB499_471
                 clear hb hbox hg
                 obtain ⟨Ao187, co187, eo187⟩ := Kd.R_slice HO491.out
                 (first | subst eo187 | (injection eo187 with f1_ f2_ f3_; have f4_ := f1_.symm; have f5_ := f3_.symm; clear f1_ f2_ f3_; subst f4_; subst f5_))
                 obtain ⟨Ao188, co188, eo188⟩ := Kd.R_slice HO494.out
                 (first | subst eo188 | (injection eo188 with f1_ f2_ f3_; have f4_ := f1_.symm; have f5_ := f3_.symm; clear f1_ f2_ f3_; subst f4_; subst f5_))
                 refine hK.out _ _ ⟨(blk_cell BK444.out 0).trans rfl, (blk_cell BK445.out 0).trans rfl⟩ (fun hHeld => ?_)
                 clear hK K
                 refine norm_ (a' := ?_) ?_ ?_
                 rotate_left
                 ·show Act.put _ (some 15) _ = _
                  simp only [Act.put, List.setIfInBounds_toArray, List.set_cons_zero, List.set_cons_succ, i64_w, i32_w]
                  rfl
                 refine one_ (i := 4) (N := some 99) #[true, true, true, true, true, false, false, false, true, false, false] rfl rfl (one_of HT_.out (by kernel_rfl)) (by decide) (fun K hK => ?_)
                 refine goes_ Try.func17 (by kernel_rfl) rfl #[.agg #[.slice Ao187 t489.length co187], .agg #[.slice Ao188 t492.length co188]] (by rfl) rfl rfl (by (try simp only [List.map_toArray, List.map_cons, List.map_nil]); first | done | rfl | (simp only [List.length_drop, List.length_take]; rfl)) ?_
                 with_reducible refine (impl_WithoutTrie.calls _ _ t489 _ _ t492 t495 t498 _ ?side1 ?side2 ?side3 ?side4 A172.out).mono ?_
                 (case side1 => exact (Kd.R_reads' HO491.out).2.2)
                 (case side2 => exact (Kd.R_reads' HO491.out).2.1)
                 (case side3 => exact (Kd.R_reads' HO494.out).2.2)
                 (case side4 => exact (Kd.R_reads' HO494.out).2.1)
                 rintro e w189 ⟨v496, rfl, ho0, hb⟩
                 refine ⟨_, rfl, ?_⟩
                 have n0_ := Aside0.mk (Kd.R_elder' HO_459000.out (Kd.R_base ho0) hb)
                 have n1_ := Aside0.mk (Kd.R_elder' HO_463000.out (Kd.R_base ho0) hb)
                 have n2_ := Aside0.mk (Kd.R_elder' HO_467000.out (Kd.R_base ho0) hb)
                 have n3_ := Aside0.mk (Kd.R_elder' HO_472000.out (Kd.R_base ho0) hb)
                 have n4_ := Aside0.mk (Kd.R_elder' HO491.out (Kd.R_base ho0) hb)
                 have n5_ := Aside0.mk (Kd.R_elder' HO494.out (Kd.R_base ho0) hb)
                 have n6_ := Aside0.mk (Kd.R_lower (Kd.R_new' (Kd.R_new' (Kd.R_new' (Kd.R_new' (Kd.R_new' (Kd.R_new' ho0 (Kd.R_lt HO_459000.out)) (Kd.R_lt HO_463000.out)) (Kd.R_lt HO_467000.out)) (Kd.R_lt HO_472000.out)) (Kd.R_lt HO491.out)) (Kd.R_lt HO494.out)) (below_size HB.out))
                 have n7_ := Aside0.mk (blk_below BK444.out hb)
                 have n8_ := Aside0.mk (blk_below BK445.out hb)
                 have n9_ := Aside0.mk (blk_below BK458.out hb)
                 have n10_ := Aside0.mk (blk_below BK462.out hb)
                 have n11_ := Aside0.mk (blk_below BK466.out hb)
                 have n12_ := Aside0.mk (blk_below BK471.out hb)
                 have n13_ := Aside0.mk (blk_below BK499.out hb)
                 have n14_ := Aside0.mk (below_step HB.out hb)
                 revert n0_ n1_ n2_ n3_ n4_ n5_ n6_ n7_ n8_ n9_ n10_ n11_ n12_ n13_ n14_
                 clear HO_459000 HO_463000 HO_467000 HO_472000 HO491 HO494 BK444 BK445 BK458 BK462 BK466 BK471 BK499 HB
                 intro HO_459000 HO_463000 HO_467000 HO_472000 HO491 HO494 HO497 BK444 BK445 BK458 BK462 BK466 BK471 BK499 HB
                 (try clear hb)
                 (try clear hb2)
                 (try clear hk)
                 (try clear hi)
                 (try clear ho0)
                 refine hK.out _ _ ⟨(blk_cell BK444.out 0).trans rfl, (blk_cell BK445.out 0).trans rfl⟩ (fun hHeld => ?_)
                 clear hK K
                 refine norm_ (a' := ?_) ?_ ?_
                 rotate_left
                 ·show Act.put _ (some 99) _ = _
                  simp only [Act.put, List.setIfInBounds_toArray, List.set_cons_zero, List.set_cons_succ, i64_w, i32_w]
                  rfl
                 refine pure_ (i := 5) (N := some 94) (v := ?_) (a' := ?_) #[true, true, true, true, true, true, false, false, true, false, false] rfl rfl (any_of HT_.out (by kernel_rfl)) (fun _ _ _ h => h) (Or.inl ⟨by rfl, ?_⟩) ?_ ?_
                 rotate_left
                 ·intro w'
                  go_simp
                  with_reducible rfl
                 rotate_left
                 ·simp only [Act.put, List.setIfInBounds_toArray, List.set_cons_zero, List.set_cons_succ, i64_w, i32_w]
                  rfl
                 refine pure_ (i := 6) (N := some 100) (v := ?_) (a' := ?_) #[true, true, true, true, true, true, true, false, true, false, false] rfl rfl (any_of HT_.out (by kernel_rfl)) (fun _ _ _ h => h) (Or.inl ⟨by rfl, ?_⟩) ?_ ?_
                 rotate_left
                 ·intro w'
                  go_simp
                  with_reducible rfl
                 rotate_left
                 ·simp only [Act.put, List.setIfInBounds_toArray, List.set_cons_zero, List.set_cons_succ, i64_w, i32_w]
                  rfl
                 refine pure_ (i := 7) (N := some 101) (v := ?_) (a' := ?_) #[true, true, true, true, true, true, true, true, true, false, false] rfl rfl (any_of HT_.out (by kernel_rfl)) (fun _ _ _ h => h) (Or.inl ⟨by rfl, ?_⟩) ?_ ?_
                 rotate_left
                 ·intro w'
                  go_simp
                  with_reducible rfl
                 rotate_left
                 ·simp only [Act.put, List.setIfInBounds_toArray, List.set_cons_zero, List.set_cons_succ, i64_w, i32_w]
                  rfl
                 exact norm_ (by simp only [putAll, Act.put, List.setIfInBounds_toArray, List.set_cons_zero, List.set_cons_succ]) (hCont (.slice Ao187 t489.length co187, .slice Ao188 t492.length co188, v496, gb499) _ ⟨hHeld, (Kd.R_mono HO491.out (fun _ hk => ⟨hk.1.2, ⟨hk.2, ⟨hk.1.1.1.1.1.2, ⟨hk.1.1.1.1.2, ⟨hk.1.1.1.2, hk.1.1.2⟩⟩⟩⟩⟩)), (Kd.R_mono HO494.out (fun _ hk => ⟨hk.1.2, ⟨hk.2, ⟨hk.1.1.1.1.1.2, ⟨hk.1.1.1.1.2, ⟨hk.1.1.1.2, hk.1.1.2⟩⟩⟩⟩⟩)), (Kd.R_mono HO497.out (fun _ hk => ⟨hk.1.2, ⟨hk.2, ⟨hk.1.1.1.1.1.2, ⟨hk.1.1.1.1.2, ⟨hk.1.1.1.2, hk.1.1.2⟩⟩⟩⟩⟩)), (Kd.R_mono HO_459000.out (fun _ hk => ⟨hk.1.1.2, ⟨hk.1.2, ⟨hk.2, ⟨hk.1.1.1.1, ⟨hk.1.1.1.2.1, hk.1.1.1.2.2⟩⟩⟩⟩⟩)), (Kd.R_mono HO_463000.out (fun _ hk => ⟨hk.1.1.2, ⟨hk.1.2, ⟨hk.2, ⟨hk.1.1.1.1, ⟨hk.1.1.1.2.1, hk.1.1.1.2.2⟩⟩⟩⟩⟩)), (Kd.R_mono HO_467000.out (fun _ hk => ⟨hk.1.1.2, ⟨hk.1.2, ⟨hk.2, ⟨hk.1.1.1.1, ⟨hk.1.1.1.2.1, hk.1.1.1.2.2⟩⟩⟩⟩⟩)), (Kd.R_mono HO_472000.out (fun _ hk => ⟨hk.1.1.2, ⟨hk.1.2, ⟨hk.2, ⟨hk.1.1.1.1, ⟨hk.1.1.1.2.1, hk.1.1.1.2.2⟩⟩⟩⟩⟩)), BK444.out, BK445.out, BK458.out, BK462.out, BK466.out, BK471.out, BK499.out, GW499.out, GE499.out, NB444_499.out, NB499_444.out, NB445_499.out, NB499_445.out, NB458_499.out, NB499_458.out, NB462_499.out, NB499_462.out, NB466_499.out, NB499_466.out, NB471_499.out, NB499_471.out, HB.out⟩)
               ·skip
                refine box_step ?hg (N := 15) ?hd (cs := #[.slice none 0 0]) (t := 24) ?hr ?_; (case hd => rfl); (case hg => rfl); (case hr => first | (go_simp; done) | (go_simp; rfl))
                intro gb499 hg w185 hbox hb
                have n0_ := Aside0.mk (Kd.R_below HO_459000.out hb)
                have n1_ := Aside0.mk (Kd.R_below HO_463000.out hb)
                have n2_ := Aside0.mk (Kd.R_below HO_467000.out hb)
                have n3_ := Aside0.mk (Kd.R_below HO_472000.out hb)
                have n4_ := Aside0.mk (Kd.R_below HO491.out hb)
                have n5_ := Aside0.mk (blk_below BK444.out hb)
                have n6_ := Aside0.mk (blk_below BK445.out hb)
                have n7_ := Aside0.mk (blk_below BK458.out hb)
                have n8_ := Aside0.mk (blk_below BK462.out hb)
                have n9_ := Aside0.mk (blk_below BK466.out hb)
                have n10_ := Aside0.mk (blk_below BK471.out hb)
                have n11_ := Aside0.mk (below_step HB.out hb)
                have n12_ := Aside0.mk (hbox)
                have n13_ := Aside0.mk ((by rw [hg]; exact (below_size HB.out) : w.heap.size ≤ gb499))
                have n14_ := Aside0.mk ((by rw [hg]; exact (below_size HB.out) : w.heap.size ≤ gb499))
                have n15_ := Aside0.mk ((by rw [hg]; exact Nat.ne_of_lt (blk_lt BK444.out) : gb444 ≠ gb499))
                have n16_ := Aside0.mk ((by rw [hg]; exact Nat.ne_of_gt (blk_lt BK444.out) : gb499 ≠ gb444))
                have n17_ := Aside0.mk ((by rw [hg]; exact Nat.ne_of_lt (blk_lt BK445.out) : gb445 ≠ gb499))
                have n18_ := Aside0.mk ((by rw [hg]; exact Nat.ne_of_gt (blk_lt BK445.out) : gb499 ≠ gb445))
                have n19_ := Aside0.mk ((by rw [hg]; exact Nat.ne_of_lt (blk_lt BK458.out) : gb458 ≠ gb499))
                have n20_ := Aside0.mk ((by rw [hg]; exact Nat.ne_of_gt (blk_lt BK458.out) : gb499 ≠ gb458))
                have n21_ := Aside0.mk ((by rw [hg]; exact Nat.ne_of_lt (blk_lt BK462.out) : gb462 ≠ gb499))
                have n22_ := Aside0.mk ((by rw [hg]; exact Nat.ne_of_gt (blk_lt BK462.out) : gb499 ≠ gb462))
                have n23_ := Aside0.mk ((by rw [hg]; exact Nat.ne_of_lt (blk_lt BK466.out) : gb466 ≠ gb499))
                have n24_ := Aside0.mk ((by rw [hg]; exact Nat.ne_of_gt (blk_lt BK466.out) : gb499 ≠ gb466))
                have n25_ := Aside0.mk ((by rw [hg]; exact Nat.ne_of_lt (blk_lt BK471.out) : gb471 ≠ gb499))
                have n26_ := Aside0.mk ((by rw [hg]; exact Nat.ne_of_gt (blk_lt BK471.out) : gb499 ≠ gb471))
                revert n0_ n1_ n2_ n3_ n4_ n5_ n6_ n7_ n8_ n9_ n10_ n11_ n12_ n13_ n14_ n15_ n16_ n17_ n18_ n19_ n20_ n21_ n22_ n23_ n24_ n25_ n26_
                clear HO_459000 HO_463000 HO_467000 HO_472000 HO491 BK444 BK445 BK458 BK462 BK466 BK471 HB
                intro HO_459000 HO_463000 HO_467000 HO_472000 HO491 BK444 BK445 BK458 BK462 BK466 BK471 HB BK499 GW499 GE499 NB444_499 NB499_444 NB445_499 NB499_445 NB458_499 NB499_458 NB462_499 NB499_462 NB466_499 NB499_466 NB471_499 NB499_471
                clear hb hbox hg
                refine hK.out _ _ ⟨(blk_cell BK444.out 0).trans rfl, (blk_cell BK445.out 0).trans rfl⟩ (fun hHeld => ?_)
                clear hK K
                refine norm_ (a' := ?_) ?_ ?_
                rotate_left
                ·show Act.put _ (some 15) _ = _
                 simp only [Act.put, List.setIfInBounds_toArray, List.set_cons_zero, List.set_cons_succ, i64_w, i32_w]
                 rfl
                refine one_ (i := 3) (N := some 98) #[true, true, true, true, false, false, false, false, true, false, false] rfl rfl (one_of HT_.out (by kernel_rfl)) (by decide) (fun K hK => ?_)
                refine goes_ Try.func14 (by kernel_rfl) rfl #[.agg #[.slice A1_0 l1_0.length c1_0]] (by rfl) rfl rfl (by (try simp only [List.map_toArray, List.map_cons, List.map_nil]); first | done | rfl | (simp only [List.length_drop, List.length_take]; rfl)) ?_
                with_reducible refine (laws_toTrie.calls kj106 _ _ l1_0 t492 _ ?side1 ?side2 A171.out).mono ?_
                (case side1 => exact (Kd.C_below HR1_0.out HB.out))
                (case side2 => exact HC1_0.out)
                rintro e w186 ⟨v493, rfl, ho0, hb⟩
                refine ⟨_, rfl, ?_⟩
                have n0_ := Aside0.mk (Kd.R_elder' HO_459000.out (Kd.R_base ho0) hb)
                have n1_ := Aside0.mk (Kd.R_elder' HO_463000.out (Kd.R_base ho0) hb)
                have n2_ := Aside0.mk (Kd.R_elder' HO_467000.out (Kd.R_base ho0) hb)
                have n3_ := Aside0.mk (Kd.R_elder' HO_472000.out (Kd.R_base ho0) hb)
                have n4_ := Aside0.mk (Kd.R_elder' HO491.out (Kd.R_base ho0) hb)
                have n5_ := Aside0.mk (Kd.R_lower (Kd.R_new' (Kd.R_new' (Kd.R_new' (Kd.R_new' (Kd.R_new' ho0 (Kd.R_lt HO_459000.out)) (Kd.R_lt HO_463000.out)) (Kd.R_lt HO_467000.out)) (Kd.R_lt HO_472000.out)) (Kd.R_lt HO491.out)) (below_size HB.out))
                have n6_ := Aside0.mk (blk_below BK444.out hb)
                have n7_ := Aside0.mk (blk_below BK445.out hb)
                have n8_ := Aside0.mk (blk_below BK458.out hb)
                have n9_ := Aside0.mk (blk_below BK462.out hb)
                have n10_ := Aside0.mk (blk_below BK466.out hb)
                have n11_ := Aside0.mk (blk_below BK471.out hb)
                have n12_ := Aside0.mk (blk_below BK499.out hb)
                have n13_ := Aside0.mk (below_step HB.out hb)
                revert n0_ n1_ n2_ n3_ n4_ n5_ n6_ n7_ n8_ n9_ n10_ n11_ n12_ n13_
                clear HO_459000 HO_463000 HO_467000 HO_472000 HO491 BK444 BK445 BK458 BK462 BK466 BK471 BK499 HB
                intro HO_459000 HO_463000 HO_467000 HO_472000 HO491 HO494 BK444 BK445 BK458 BK462 BK466 BK471 BK499 HB
                (try clear hb)
                (try clear hb2)
                (try clear hk)
                (try clear hi)
                (try clear ho0)
                obtain ⟨Ao187, co187, eo187⟩ := Kd.R_slice HO491.out
                (first | subst eo187 | (injection eo187 with f1_ f2_ f3_; have f4_ := f1_.symm; have f5_ := f3_.symm; clear f1_ f2_ f3_; subst f4_; subst f5_))
                obtain ⟨Ao188, co188, eo188⟩ := Kd.R_slice HO494.out
                (first | subst eo188 | (injection eo188 with f1_ f2_ f3_; have f4_ := f1_.symm; have f5_ := f3_.symm; clear f1_ f2_ f3_; subst f4_; subst f5_))
                refine hK.out _ _ ⟨(blk_cell BK444.out 0).trans rfl, (blk_cell BK445.out 0).trans rfl⟩ (fun hHeld => ?_)
                clear hK K
                refine norm_ (a' := ?_) ?_ ?_
                rotate_left
                ·show Act.put _ (some 98) _ = _
                 simp only [Act.put, List.setIfInBounds_toArray, List.set_cons_zero, List.set_cons_succ, i64_w, i32_w]
                 rfl
                refine one_ (i := 4) (N := some 99) #[true, true, true, true, true, false, false, false, true, false, false] rfl rfl (one_of HT_.out (by kernel_rfl)) (by decide) (fun K hK => ?_)
                refine goes_ Try.func17 (by kernel_rfl) rfl #[.agg #[.slice Ao187 t489.length co187], .agg #[.slice Ao188 t492.length co188]] (by rfl) rfl rfl (by (try simp only [List.map_toArray, List.map_cons, List.map_nil]); first | done | rfl | (simp only [List.length_drop, List.length_take]; rfl)) ?_
                with_reducible refine (impl_WithoutTrie.calls _ _ t489 _ _ t492 t495 t498 _ ?side1 ?side2 ?side3 ?side4 A172.out).mono ?_
                (case side1 => exact (Kd.R_reads' HO491.out).2.2)
                (case side2 => exact (Kd.R_reads' HO491.out).2.1)
                (case side3 => exact (Kd.R_reads' HO494.out).2.2)
                (case side4 => exact (Kd.R_reads' HO494.out).2.1)
                rintro e w189 ⟨v496, rfl, ho0, hb⟩
                refine ⟨_, rfl, ?_⟩
                have n0_ := Aside0.mk (Kd.R_elder' HO_459000.out (Kd.R_base ho0) hb)
                have n1_ := Aside0.mk (Kd.R_elder' HO_463000.out (Kd.R_base ho0) hb)
                have n2_ := Aside0.mk (Kd.R_elder' HO_467000.out (Kd.R_base ho0) hb)
                have n3_ := Aside0.mk (Kd.R_elder' HO_472000.out (Kd.R_base ho0) hb)
                have n4_ := Aside0.mk (Kd.R_elder' HO491.out (Kd.R_base ho0) hb)
                have n5_ := Aside0.mk (Kd.R_elder' HO494.out (Kd.R_base ho0) hb)
                have n6_ := Aside0.mk (Kd.R_lower (Kd.R_new' (Kd.R_new' (Kd.R_new' (Kd.R_new' (Kd.R_new' (Kd.R_new' ho0 (Kd.R_lt HO_459000.out)) (Kd.R_lt HO_463000.out)) (Kd.R_lt HO_467000.out)) (Kd.R_lt HO_472000.out)) (Kd.R_lt HO491.out)) (Kd.R_lt HO494.out)) (below_size HB.out))
                have n7_ := Aside0.mk (blk_below BK444.out hb)
                have n8_ := Aside0.mk (blk_below BK445.out hb)
                have n9_ := Aside0.mk (blk_below BK458.out hb)
                have n10_ := Aside0.mk (blk_below BK462.out hb)
                have n11_ := Aside0.mk (blk_below BK466.out hb)
                have n12_ := Aside0.mk (blk_below BK471.out hb)
                have n13_ := Aside0.mk (blk_below BK499.out hb)
                have n14_ := Aside0.mk (below_step HB.out hb)
                revert n0_ n1_ n2_ n3_ n4_ n5_ n6_ n7_ n8_ n9_ n10_ n11_ n12_ n13_ n14_
                clear HO_459000 HO_463000 HO_467000 HO_472000 HO491 HO494 BK444 BK445 BK458 BK462 BK466 BK471 BK499 HB
                intro HO_459000 HO_463000 HO_467000 HO_472000 HO491 HO494 HO497 BK444 BK445 BK458 BK462 BK466 BK471 BK499 HB
                (try clear hb)
                (try clear hb2)
                (try clear hk)
                (try clear hi)
                (try clear ho0)
                refine hK.out _ _ ⟨(blk_cell BK444.out 0).trans rfl, (blk_cell BK445.out 0).trans rfl⟩ (fun hHeld => ?_)
                clear hK K
                refine norm_ (a' := ?_) ?_ ?_
                rotate_left
                ·show Act.put _ (some 99) _ = _
                 simp only [Act.put, List.setIfInBounds_toArray, List.set_cons_zero, List.set_cons_succ, i64_w, i32_w]
                 rfl
                refine pure_ (i := 5) (N := some 94) (v := ?_) (a' := ?_) #[true, true, true, true, true, true, false, false, true, false, false] rfl rfl (any_of HT_.out (by kernel_rfl)) (fun _ _ _ h => h) (Or.inl ⟨by rfl, ?_⟩) ?_ ?_
                rotate_left
                ·intro w'
                 go_simp
                 with_reducible rfl
                rotate_left
                ·simp only [Act.put, List.setIfInBounds_toArray, List.set_cons_zero, List.set_cons_succ, i64_w, i32_w]
                 rfl
                refine pure_ (i := 6) (N := some 100) (v := ?_) (a' := ?_) #[true, true, true, true, true, true, true, false, true, false, false] rfl rfl (any_of HT_.out (by kernel_rfl)) (fun _ _ _ h => h) (Or.inl ⟨by rfl, ?_⟩) ?_ ?_
                rotate_left
                ·intro w'
                 go_simp
                 with_reducible rfl
                rotate_left
                ·simp only [Act.put, List.setIfInBounds_toArray, List.set_cons_zero, List.set_cons_succ, i64_w, i32_w]
                 rfl
                refine pure_ (i := 7) (N := some 101) (v := ?_) (a' := ?_) #[true, true, true, true, true, true, true, true, true, false, false] rfl rfl (any_of HT_.out (by kernel_rfl)) (fun _ _ _ h => h) (Or.inl ⟨by rfl, ?_⟩) ?_ ?_
                rotate_left
                ·intro w'
                 go_simp
                 with_reducible rfl
                rotate_left
                ·simp only [Act.put, List.setIfInBounds_toArray, List.set_cons_zero, List.set_cons_succ, i64_w, i32_w]
                 rfl
                exact norm_ (by simp only [putAll, Act.put, List.setIfInBounds_toArray, List.set_cons_zero, List.set_cons_succ]) (hCont (.slice Ao187 t489.length co187, .slice Ao188 t492.length co188, v496, gb499) _ ⟨hHeld, (Kd.R_mono HO491.out (fun _ hk => ⟨hk.1.2, ⟨hk.2, ⟨hk.1.1.1.1.1.2, ⟨hk.1.1.1.1.2, ⟨hk.1.1.1.2, hk.1.1.2⟩⟩⟩⟩⟩)), (Kd.R_mono HO494.out (fun _ hk => ⟨hk.1.2, ⟨hk.2, ⟨hk.1.1.1.1.1.2, ⟨hk.1.1.1.1.2, ⟨hk.1.1.1.2, hk.1.1.2⟩⟩⟩⟩⟩)), (Kd.R_mono HO497.out (fun _ hk => ⟨hk.1.2, ⟨hk.2, ⟨hk.1.1.1.1.1.2, ⟨hk.1.1.1.1.2, ⟨hk.1.1.1.2, hk.1.1.2⟩⟩⟩⟩⟩)), (Kd.R_mono HO_459000.out (fun _ hk => ⟨hk.1.1.2, ⟨hk.1.2, ⟨hk.2, ⟨hk.1.1.1.1, ⟨hk.1.1.1.2.1, hk.1.1.1.2.2⟩⟩⟩⟩⟩)), (Kd.R_mono HO_463000.out (fun _ hk => ⟨hk.1.1.2, ⟨hk.1.2, ⟨hk.2, ⟨hk.1.1.1.1, ⟨hk.1.1.1.2.1, hk.1.1.1.2.2⟩⟩⟩⟩⟩)), (Kd.R_mono HO_467000.out (fun _ hk => ⟨hk.1.1.2, ⟨hk.1.2, ⟨hk.2, ⟨hk.1.1.1.1, ⟨hk.1.1.1.2.1, hk.1.1.1.2.2⟩⟩⟩⟩⟩)), (Kd.R_mono HO_472000.out (fun _ hk => ⟨hk.1.1.2, ⟨hk.1.2, ⟨hk.2, ⟨hk.1.1.1.1, ⟨hk.1.1.1.2.1, hk.1.1.1.2.2⟩⟩⟩⟩⟩)), BK444.out, BK445.out, BK458.out, BK462.out, BK466.out, BK471.out, BK499.out, GW499.out, GE499.out, NB444_499.out, NB499_444.out, NB445_499.out, NB499_445.out, NB458_499.out, NB499_458.out, NB462_499.out, NB499_462.out, NB466_499.out, NB499_466.out, NB471_499.out, NB499_471.out, HB.out⟩)
              ·skip
               refine box_step ?hg (N := 15) ?hd (cs := #[.slice none 0 0]) (t := 24) ?hr ?_; (case hd => rfl); (case hg => rfl); (case hr => first | (go_simp; done) | (go_simp; rfl))
               intro gb499 hg w184 hbox hb
               have n0_ := Aside0.mk (Kd.R_below HO_459000.out hb)
               have n1_ := Aside0.mk (Kd.R_below HO_463000.out hb)
               have n2_ := Aside0.mk (Kd.R_below HO_467000.out hb)
               have n3_ := Aside0.mk (Kd.R_below HO_472000.out hb)
               have n4_ := Aside0.mk (blk_below BK444.out hb)
               have n5_ := Aside0.mk (blk_below BK445.out hb)
               have n6_ := Aside0.mk (blk_below BK458.out hb)
               have n7_ := Aside0.mk (blk_below BK462.out hb)
               have n8_ := Aside0.mk (blk_below BK466.out hb)
               have n9_ := Aside0.mk (blk_below BK471.out hb)
               have n10_ := Aside0.mk (below_step HB.out hb)
               have n11_ := Aside0.mk (hbox)
               have n12_ := Aside0.mk ((by rw [hg]; exact (below_size HB.out) : w.heap.size ≤ gb499))
               have n13_ := Aside0.mk ((by rw [hg]; exact (below_size HB.out) : w.heap.size ≤ gb499))
               have n14_ := Aside0.mk ((by rw [hg]; exact Nat.ne_of_lt (blk_lt BK444.out) : gb444 ≠ gb499))
               have n15_ := Aside0.mk ((by rw [hg]; exact Nat.ne_of_gt (blk_lt BK444.out) : gb499 ≠ gb444))
               have n16_ := Aside0.mk ((by rw [hg]; exact Nat.ne_of_lt (blk_lt BK445.out) : gb445 ≠ gb499))
               have n17_ := Aside0.mk ((by rw [hg]; exact Nat.ne_of_gt (blk_lt BK445.out) : gb499 ≠ gb445))
               have n18_ := Aside0.mk ((by rw [hg]; exact Nat.ne_of_lt (blk_lt BK458.out) : gb458 ≠ gb499))
               have n19_ := Aside0.mk ((by rw [hg]; exact Nat.ne_of_gt (blk_lt BK458.out) : gb499 ≠ gb458))
               have n20_ := Aside0.mk ((by rw [hg]; exact Nat.ne_of_lt (blk_lt BK462.out) : gb462 ≠ gb499))
               have n21_ := Aside0.mk ((by rw [hg]; exact Nat.ne_of_gt (blk_lt BK462.out) : gb499 ≠ gb462))
               have n22_ := Aside0.mk ((by rw [hg]; exact Nat.ne_of_lt (blk_lt BK466.out) : gb466 ≠ gb499))
               have n23_ := Aside0.mk ((by rw [hg]; exact Nat.ne_of_gt (blk_lt BK466.out) : gb499 ≠ gb466))
               have n24_ := Aside0.mk ((by rw [hg]; exact Nat.ne_of_lt (blk_lt BK471.out) : gb471 ≠ gb499))
               have n25_ := Aside0.mk ((by rw [hg]; exact Nat.ne_of_gt (blk_lt BK471.out) : gb499 ≠ gb471))
               revert n0_ n1_ n2_ n3_ n4_ n5_ n6_ n7_ n8_ n9_ n10_ n11_ n12_ n13_ n14_ n15_ n16_ n17_ n18_ n19_ n20_ n21_ n22_ n23_ n24_ n25_
               clear HO_459000 HO_463000 HO_467000 HO_472000 BK444 BK445 BK458 BK462 BK466 BK471 HB
               intro HO_459000 HO_463000 HO_467000 HO_472000 BK444 BK445 BK458 BK462 BK466 BK471 HB BK499 GW499 GE499 NB444_499 NB499_444 NB445_499 NB499_445 NB458_499 NB499_458 NB462_499 NB499_462 NB466_499 NB499_466 NB471_499 NB499_471
               clear hb hbox hg
               refine hK.out _ _ ⟨(blk_cell BK444.out 0).trans rfl, (blk_cell BK445.out 0).trans rfl⟩ (fun hHeld => ?_)
               clear hK K
               refine norm_ (a' := ?_) ?_ ?_
               rotate_left
               ·show Act.put _ (some 15) _ = _
                simp only [Act.put, List.setIfInBounds_toArray, List.set_cons_zero, List.set_cons_succ, i64_w, i32_w]
                rfl
               refine one_ (i := 1) (N := some 96) #[true, true, true, false, false, false, false, false, true, false, false] rfl rfl (one_of HT_.out (by kernel_rfl)) (by decide) (fun K hK => ?_)
               refine goes_ Try.func14 (by kernel_rfl) rfl #[.agg #[.slice A0_0 l0_0.length c0_0]] (by rfl) rfl rfl (by (try simp only [List.map_toArray, List.map_cons, List.map_nil]); first | done | rfl | (simp only [List.length_drop, List.length_take]; rfl)) ?_
               with_reducible refine (laws_toTrie.calls kj106 _ _ l0_0 t489 _ ?side1 ?side2 A170.out).mono ?_
               (case side1 => exact (Kd.C_below HR0_0.out HB.out))
               (case side2 => exact HC0_0.out)
               rintro e w185 ⟨v490, rfl, ho0, hb⟩
               refine ⟨_, rfl, ?_⟩
               have n0_ := Aside0.mk (Kd.R_elder' HO_459000.out (Kd.R_base ho0) hb)
               have n1_ := Aside0.mk (Kd.R_elder' HO_463000.out (Kd.R_base ho0) hb)
               have n2_ := Aside0.mk (Kd.R_elder' HO_467000.out (Kd.R_base ho0) hb)
               have n3_ := Aside0.mk (Kd.R_elder' HO_472000.out (Kd.R_base ho0) hb)
               have n4_ := Aside0.mk (Kd.R_lower (Kd.R_new' (Kd.R_new' (Kd.R_new' (Kd.R_new' ho0 (Kd.R_lt HO_459000.out)) (Kd.R_lt HO_463000.out)) (Kd.R_lt HO_467000.out)) (Kd.R_lt HO_472000.out)) (below_size HB.out))
               have n5_ := Aside0.mk (blk_below BK444.out hb)
               have n6_ := Aside0.mk (blk_below BK445.out hb)
               have n7_ := Aside0.mk (blk_below BK458.out hb)
               have n8_ := Aside0.mk (blk_below BK462.out hb)
               have n9_ := Aside0.mk (blk_below BK466.out hb)
               have n10_ := Aside0.mk (blk_below BK471.out hb)
               have n11_ := Aside0.mk (blk_below BK499.out hb)
               have n12_ := Aside0.mk (below_step HB.out hb)
               revert n0_ n1_ n2_ n3_ n4_ n5_ n6_ n7_ n8_ n9_ n10_ n11_ n12_
               clear HO_459000 HO_463000 HO_467000 HO_472000 BK444 BK445 BK458 BK462 BK466 BK471 BK499 HB
               intro HO_459000 HO_463000 HO_467000 HO_472000 HO491 BK444 BK445 BK458 BK462 BK466 BK471 BK499 HB
               (try clear hb)
               (try clear hb2)
               (try clear hk)
               (try clear hi)
               (try clear ho0)
               refine hK.out _ _ ⟨(blk_cell BK444.out 0).trans rfl, (blk_cell BK445.out 0).trans rfl⟩ (fun hHeld => ?_)
               clear hK K
               refine norm_ (a' := ?_) ?_ ?_
               rotate_left
               ·show Act.put _ (some 96) _ = _
                simp only [Act.put, List.setIfInBounds_toArray, List.set_cons_zero, List.set_cons_succ, i64_w, i32_w]
                rfl
               refine one_ (i := 3) (N := some 98) #[true, true, true, true, false, false, false, false, true, false, false] rfl rfl (one_of HT_.out (by kernel_rfl)) (by decide) (fun K hK => ?_)
               refine goes_ Try.func14 (by kernel_rfl) rfl #[.agg #[.slice A1_0 l1_0.length c1_0]] (by rfl) rfl rfl (by (try simp only [List.map_toArray, List.map_cons, List.map_nil]); first | done | rfl | (simp only [List.length_drop, List.length_take]; rfl)) ?_
               with_reducible refine (laws_toTrie.calls kj106 _ _ l1_0 t492 _ ?side1 ?side2 A171.out).mono ?_
               (case side1 => exact (Kd.C_below HR1_0.out HB.out))
               (case side2 => exact HC1_0.out)
               rintro e w186 ⟨v493, rfl, ho0, hb⟩
               refine ⟨_, rfl, ?_⟩
               have n0_ := Aside0.mk (Kd.R_elder' HO_459000.out (Kd.R_base ho0) hb)
               have n1_ := Aside0.mk (Kd.R_elder' HO_463000.out (Kd.R_base ho0) hb)
               have n2_ := Aside0.mk (Kd.R_elder' HO_467000.out (Kd.R_base ho0) hb)
               have n3_ := Aside0.mk (Kd.R_elder' HO_472000.out (Kd.R_base ho0) hb)
               have n4_ := Aside0.mk (Kd.R_elder' HO491.out (Kd.R_base ho0) hb)
               have n5_ := Aside0.mk (Kd.R_lower (Kd.R_new' (Kd.R_new' (Kd.R_new' (Kd.R_new' (Kd.R_new' ho0 (Kd.R_lt HO_459000.out)) (Kd.R_lt HO_463000.out)) (Kd.R_lt HO_467000.out)) (Kd.R_lt HO_472000.out)) (Kd.R_lt HO491.out)) (below_size HB.out))
               have n6_ := Aside0.mk (blk_below BK444.out hb)
               have n7_ := Aside0.mk (blk_below BK445.out hb)
               have n8_ := Aside0.mk (blk_below BK458.out hb)
               have n9_ := Aside0.mk (blk_below BK462.out hb)
               have n10_ := Aside0.mk (blk_below BK466.out hb)
               have n11_ := Aside0.mk (blk_below BK471.out hb)
               have n12_ := Aside0.mk (blk_below BK499.out hb)
               have n13_ := Aside0.mk (below_step HB.out hb)
               revert n0_ n1_ n2_ n3_ n4_ n5_ n6_ n7_ n8_ n9_ n10_ n11_ n12_ n13_
               clear HO_459000 HO_463000 HO_467000 HO_472000 HO491 BK444 BK445 BK458 BK462 BK466 BK471 BK499 HB
               intro HO_459000 HO_463000 HO_467000 HO_472000 HO491 HO494 BK444 BK445 BK458 BK462 BK466 BK471 BK499 HB
               (try clear hb)
               (try clear hb2)
               (try clear hk)
               (try clear hi)
               (try clear ho0)
               obtain ⟨Ao187, co187, eo187⟩ := Kd.R_slice HO491.out
               (first | subst eo187 | (injection eo187 with f1_ f2_ f3_; have f4_ := f1_.symm; have f5_ := f3_.symm; clear f1_ f2_ f3_; subst f4_; subst f5_))
               obtain ⟨Ao188, co188, eo188⟩ := Kd.R_slice HO494.out
               (first | subst eo188 | (injection eo188 with f1_ f2_ f3_; have f4_ := f1_.symm; have f5_ := f3_.symm; clear f1_ f2_ f3_; subst f4_; subst f5_))
               refine hK.out _ _ ⟨(blk_cell BK444.out 0).trans rfl, (blk_cell BK445.out 0).trans rfl⟩ (fun hHeld => ?_)
               clear hK K
               refine norm_ (a' := ?_) ?_ ?_
               rotate_left
               ·show Act.put _ (some 98) _ = _
                simp only [Act.put, List.setIfInBounds_toArray, List.set_cons_zero, List.set_cons_succ, i64_w, i32_w]
                rfl
               refine one_ (i := 4) (N := some 99) #[true, true, true, true, true, false, false, false, true, false, false] rfl rfl (one_of HT_.out (by kernel_rfl)) (by decide) (fun K hK => ?_)
               refine goes_ Try.func17 (by kernel_rfl) rfl #[.agg #[.slice Ao187 t489.length co187], .agg #[.slice Ao188 t492.length co188]] (by rfl) rfl rfl (by (try simp only [List.map_toArray, List.map_cons, List.map_nil]); first | done | rfl | (simp only [List.length_drop, List.length_take]; rfl)) ?_
               with_reducible refine (impl_WithoutTrie.calls _ _ t489 _ _ t492 t495 t498 _ ?side1 ?side2 ?side3 ?side4 A172.out).mono ?_
               (case side1 => exact (Kd.R_reads' HO491.out).2.2)
               (case side2 => exact (Kd.R_reads' HO491.out).2.1)
               (case side3 => exact (Kd.R_reads' HO494.out).2.2)
               (case side4 => exact (Kd.R_reads' HO494.out).2.1)
               rintro e w189 ⟨v496, rfl, ho0, hb⟩
               refine ⟨_, rfl, ?_⟩
               have n0_ := Aside0.mk (Kd.R_elder' HO_459000.out (Kd.R_base ho0) hb)
               have n1_ := Aside0.mk (Kd.R_elder' HO_463000.out (Kd.R_base ho0) hb)
               have n2_ := Aside0.mk (Kd.R_elder' HO_467000.out (Kd.R_base ho0) hb)
               have n3_ := Aside0.mk (Kd.R_elder' HO_472000.out (Kd.R_base ho0) hb)
               have n4_ := Aside0.mk (Kd.R_elder' HO491.out (Kd.R_base ho0) hb)
               have n5_ := Aside0.mk (Kd.R_elder' HO494.out (Kd.R_base ho0) hb)
               have n6_ := Aside0.mk (Kd.R_lower (Kd.R_new' (Kd.R_new' (Kd.R_new' (Kd.R_new' (Kd.R_new' (Kd.R_new' ho0 (Kd.R_lt HO_459000.out)) (Kd.R_lt HO_463000.out)) (Kd.R_lt HO_467000.out)) (Kd.R_lt HO_472000.out)) (Kd.R_lt HO491.out)) (Kd.R_lt HO494.out)) (below_size HB.out))
               have n7_ := Aside0.mk (blk_below BK444.out hb)
               have n8_ := Aside0.mk (blk_below BK445.out hb)
               have n9_ := Aside0.mk (blk_below BK458.out hb)
               have n10_ := Aside0.mk (blk_below BK462.out hb)
               have n11_ := Aside0.mk (blk_below BK466.out hb)
               have n12_ := Aside0.mk (blk_below BK471.out hb)
               have n13_ := Aside0.mk (blk_below BK499.out hb)
               have n14_ := Aside0.mk (below_step HB.out hb)
               revert n0_ n1_ n2_ n3_ n4_ n5_ n6_ n7_ n8_ n9_ n10_ n11_ n12_ n13_ n14_
               clear HO_459000 HO_463000 HO_467000 HO_472000 HO491 HO494 BK444 BK445 BK458 BK462 BK466 BK471 BK499 HB
               intro HO_459000 HO_463000 HO_467000 HO_472000 HO491 HO494 HO497 BK444 BK445 BK458 BK462 BK466 BK471 BK499 HB
               (try clear hb)
               (try clear hb2)
               (try clear hk)
               (try clear hi)
               (try clear ho0)
               refine hK.out _ _ ⟨(blk_cell BK444.out 0).trans rfl, (blk_cell BK445.out 0).trans rfl⟩ (fun hHeld => ?_)
               clear hK K
               refine norm_ (a' := ?_) ?_ ?_
               rotate_left
               ·show Act.put _ (some 99) _ = _
                simp only [Act.put, List.setIfInBounds_toArray, List.set_cons_zero, List.set_cons_succ, i64_w, i32_w]
                rfl
               refine pure_ (i := 5) (N := some 94) (v := ?_) (a' := ?_) #[true, true, true, true, true, true, false, false, true, false, false] rfl rfl (any_of HT_.out (by kernel_rfl)) (fun _ _ _ h => h) (Or.inl ⟨by rfl, ?_⟩) ?_ ?_
               rotate_left
               ·intro w'
                go_simp
                with_reducible rfl
               rotate_left
               ·simp only [Act.put, List.setIfInBounds_toArray, List.set_cons_zero, List.set_cons_succ, i64_w, i32_w]
                rfl
               refine pure_ (i := 6) (N := some 100) (v := ?_) (a' := ?_) #[true, true, true, true, true, true, true, false, true, false, false] rfl rfl (any_of HT_.out (by kernel_rfl)) (fun _ _ _ h => h) (Or.inl ⟨by rfl, ?_⟩) ?_ ?_
               rotate_left
               ·intro w'
                go_simp
                with_reducible rfl
               rotate_left
               ·simp only [Act.put, List.setIfInBounds_toArray, List.set_cons_zero, List.set_cons_succ, i64_w, i32_w]
                rfl
               refine pure_ (i := 7) (N := some 101) (v := ?_) (a' := ?_) #[true, true, true, true, true, true, true, true, true, false, false] rfl rfl (any_of HT_.out (by kernel_rfl)) (fun _ _ _ h => h) (Or.inl ⟨by rfl, ?_⟩) ?_ ?_
               rotate_left
               ·intro w'
                go_simp
                with_reducible rfl
               rotate_left
               ·simp only [Act.put, List.setIfInBounds_toArray, List.set_cons_zero, List.set_cons_succ, i64_w, i32_w]
                rfl
               exact norm_ (by simp only [putAll, Act.put, List.setIfInBounds_toArray, List.set_cons_zero, List.set_cons_succ]) (hCont (.slice Ao187 t489.length co187, .slice Ao188 t492.length co188, v496, gb499) _ ⟨hHeld, (Kd.R_mono HO491.out (fun _ hk => ⟨hk.1.2, ⟨hk.2, ⟨hk.1.1.1.1.1.2, ⟨hk.1.1.1.1.2, ⟨hk.1.1.1.2, hk.1.1.2⟩⟩⟩⟩⟩)), (Kd.R_mono HO494.out (fun _ hk => ⟨hk.1.2, ⟨hk.2, ⟨hk.1.1.1.1.1.2, ⟨hk.1.1.1.1.2, ⟨hk.1.1.1.2, hk.1.1.2⟩⟩⟩⟩⟩)), (Kd.R_mono HO497.out (fun _ hk => ⟨hk.1.2, ⟨hk.2, ⟨hk.1.1.1.1.1.2, ⟨hk.1.1.1.1.2, ⟨hk.1.1.1.2, hk.1.1.2⟩⟩⟩⟩⟩)), (Kd.R_mono HO_459000.out (fun _ hk => ⟨hk.1.1.2, ⟨hk.1.2, ⟨hk.2, ⟨hk.1.1.1.1, ⟨hk.1.1.1.2.1, hk.1.1.1.2.2⟩⟩⟩⟩⟩)), (Kd.R_mono HO_463000.out (fun _ hk => ⟨hk.1.1.2, ⟨hk.1.2, ⟨hk.2, ⟨hk.1.1.1.1, ⟨hk.1.1.1.2.1, hk.1.1.1.2.2⟩⟩⟩⟩⟩)), (Kd.R_mono HO_467000.out (fun _ hk => ⟨hk.1.1.2, ⟨hk.1.2, ⟨hk.2, ⟨hk.1.1.1.1, ⟨hk.1.1.1.2.1, hk.1.1.1.2.2⟩⟩⟩⟩⟩)), (Kd.R_mono HO_472000.out (fun _ hk => ⟨hk.1.1.2, ⟨hk.1.2, ⟨hk.2, ⟨hk.1.1.1.1, ⟨hk.1.1.1.2.1, hk.1.1.1.2.2⟩⟩⟩⟩⟩)), BK444.out, BK445.out, BK458.out, BK462.out, BK466.out, BK471.out, BK499.out, GW499.out, GE499.out, NB444_499.out, NB499_444.out, NB445_499.out, NB499_445.out, NB458_499.out, NB499_458.out, NB462_499.out, NB499_462.out, NB466_499.out, NB499_466.out, NB471_499.out, NB499_471.out, HB.out⟩)
             rintro ⟨v490, v493, v496, gb499⟩ w190 ⟨hS_, h0_, h1_, h2_, h3_, h4_, h5_, h6_, h7_, h8_, h9_, h10_, h11_, h12_, h13_, h14_, h15_, h16_, h17_, h18_, h19_, h20_, h21_, h22_, h23_, h24_, h25_, h26_, h27_, h28_⟩
             have n0_ : Aside0 (Kd.R k67 67 w190 w.heap.size (fun k_ => some k_ ≠ (v493 : Value).ownBlock ∧ some k_ ≠ (v496 : Value).ownBlock ∧ some k_ ≠ (.slice Ao41 t454.length co41 : Value).ownBlock ∧ some k_ ≠ (.slice Ao47 t482.length co47 : Value).ownBlock ∧ some k_ ≠ (.slice Ao56 t484.length co56 : Value).ownBlock ∧ some k_ ≠ (.slice Ao65 t467.length co65 : Value).ownBlock) v490 t489) := ⟨h0_⟩
             have n1_ : Aside0 (Kd.R k67 67 w190 w.heap.size (fun k_ => some k_ ≠ (v490 : Value).ownBlock ∧ some k_ ≠ (v496 : Value).ownBlock ∧ some k_ ≠ (.slice Ao41 t454.length co41 : Value).ownBlock ∧ some k_ ≠ (.slice Ao47 t482.length co47 : Value).ownBlock ∧ some k_ ≠ (.slice Ao56 t484.length co56 : Value).ownBlock ∧ some k_ ≠ (.slice Ao65 t467.length co65 : Value).ownBlock) v493 t492) := ⟨h1_⟩
             have n2_ : Aside0 (Kd.R k67 67 w190 w.heap.size (fun k_ => some k_ ≠ (v490 : Value).ownBlock ∧ some k_ ≠ (v493 : Value).ownBlock ∧ some k_ ≠ (.slice Ao41 t454.length co41 : Value).ownBlock ∧ some k_ ≠ (.slice Ao47 t482.length co47 : Value).ownBlock ∧ some k_ ≠ (.slice Ao56 t484.length co56 : Value).ownBlock ∧ some k_ ≠ (.slice Ao65 t467.length co65 : Value).ownBlock) v496 t495) := ⟨h2_⟩
             have n3_ : Aside0 (Kd.R k67 67 w190 w.heap.size (fun k_ => some k_ ≠ (v490 : Value).ownBlock ∧ some k_ ≠ (v493 : Value).ownBlock ∧ some k_ ≠ (v496 : Value).ownBlock ∧ some k_ ≠ (.slice Ao47 t482.length co47 : Value).ownBlock ∧ some k_ ≠ (.slice Ao56 t484.length co56 : Value).ownBlock ∧ some k_ ≠ (.slice Ao65 t467.length co65 : Value).ownBlock) (.slice Ao41 t454.length co41) t454) := ⟨h3_⟩
             have n4_ : Aside0 (Kd.R k67 67 w190 w.heap.size (fun k_ => some k_ ≠ (v490 : Value).ownBlock ∧ some k_ ≠ (v493 : Value).ownBlock ∧ some k_ ≠ (v496 : Value).ownBlock ∧ some k_ ≠ (.slice Ao41 t454.length co41 : Value).ownBlock ∧ some k_ ≠ (.slice Ao56 t484.length co56 : Value).ownBlock ∧ some k_ ≠ (.slice Ao65 t467.length co65 : Value).ownBlock) (.slice Ao47 t482.length co47) t482) := ⟨h4_⟩
             have n5_ : Aside0 (Kd.R k67 67 w190 w.heap.size (fun k_ => some k_ ≠ (v490 : Value).ownBlock ∧ some k_ ≠ (v493 : Value).ownBlock ∧ some k_ ≠ (v496 : Value).ownBlock ∧ some k_ ≠ (.slice Ao41 t454.length co41 : Value).ownBlock ∧ some k_ ≠ (.slice Ao47 t482.length co47 : Value).ownBlock ∧ some k_ ≠ (.slice Ao65 t467.length co65 : Value).ownBlock) (.slice Ao56 t484.length co56) t484) := ⟨h5_⟩
             have n6_ : Aside0 (Kd.R k67 67 w190 w.heap.size (fun k_ => some k_ ≠ (v490 : Value).ownBlock ∧ some k_ ≠ (v493 : Value).ownBlock ∧ some k_ ≠ (v496 : Value).ownBlock ∧ some k_ ≠ (.slice Ao41 t454.length co41 : Value).ownBlock ∧ some k_ ≠ (.slice Ao47 t482.length co47 : Value).ownBlock ∧ some k_ ≠ (.slice Ao56 t484.length co56 : Value).ownBlock) (.slice Ao65 t467.length co65) t487) := ⟨h6_⟩
             have n7_ : Aside0 (w190.heap[gb444]? = some (.cells #[.slice A0_0 l0_0.length c0_0] 32 (0, 0))) := ⟨h7_⟩
             have n8_ : Aside0 (w190.heap[gb445]? = some (.cells #[.slice A1_0 l1_0.length c1_0] 32 (0, 0))) := ⟨h8_⟩
             have n9_ : Aside0 (w190.heap[gb458]? = some (.cells #[.slice Ao41 t454.length co41] 24 (0, 0))) := ⟨h9_⟩
             have n10_ : Aside0 (w190.heap[gb462]? = some (.cells #[.slice Ao47 t482.length co47] 24 (0, 0))) := ⟨h10_⟩
             have n11_ : Aside0 (w190.heap[gb466]? = some (.cells #[.slice Ao56 t484.length co56] 24 (0, 0))) := ⟨h11_⟩
             have n12_ : Aside0 (w190.heap[gb471]? = some (.cells #[.slice Ao65 t467.length co65] 24 (0, 0))) := ⟨h12_⟩
             have n13_ : Aside0 (w190.heap[gb499]? = some (.cells #[.slice none 0 0] 24 (0, 0))) := ⟨h13_⟩
             have n14_ : Aside0 (w.heap.size ≤ gb499) := ⟨h14_⟩
             have n15_ : Aside0 (w.heap.size ≤ gb499) := ⟨h15_⟩
             have n16_ : Aside0 (gb444 ≠ gb499) := ⟨h16_⟩
             have n17_ : Aside0 (gb499 ≠ gb444) := ⟨h17_⟩
             have n18_ : Aside0 (gb445 ≠ gb499) := ⟨h18_⟩
             have n19_ : Aside0 (gb499 ≠ gb445) := ⟨h19_⟩
             have n20_ : Aside0 (gb458 ≠ gb499) := ⟨h20_⟩
             have n21_ : Aside0 (gb499 ≠ gb458) := ⟨h21_⟩
             have n22_ : Aside0 (gb462 ≠ gb499) := ⟨h22_⟩
             have n23_ : Aside0 (gb499 ≠ gb462) := ⟨h23_⟩
             have n24_ : Aside0 (gb466 ≠ gb499) := ⟨h24_⟩
             have n25_ : Aside0 (gb499 ≠ gb466) := ⟨h25_⟩
             have n26_ : Aside0 (gb471 ≠ gb499) := ⟨h26_⟩
             have n27_ : Aside0 (gb499 ≠ gb471) := ⟨h27_⟩
             have n28_ : Aside0 (Below w.heap.size w w190) := ⟨h28_⟩
             clear HO_459000
             clear HO_463000
             clear HO_467000
             clear HO_472000
             clear BK444
             clear BK445
             clear BK458
             clear BK462
             clear BK466
             clear BK471
             clear HB
             clear h0_ h1_ h2_ h3_ h4_ h5_ h6_ h7_ h8_ h9_ h10_ h11_ h12_ h13_ h14_ h15_ h16_ h17_ h18_ h19_ h20_ h21_ h22_ h23_ h24_ h25_ h26_ h27_ h28_
             have HO491 := n0_
             have HO494 := n1_
             have HO497 := n2_
             have HO_459000 := n3_
             have HO_463000 := n4_
             have HO_467000 := n5_
             have HO_472000 := n6_
             have BK444 := n7_
             have BK445 := n8_
             have BK458 := n9_
             have BK462 := n10_
             have BK466 := n11_
             have BK471 := n12_
             have BK499 := n13_
             have GW499 := n14_
             have GE499 := n15_
             have NB444_499 := n16_
             have NB499_444 := n17_
             have NB445_499 := n18_
             have NB499_445 := n19_
             have NB458_499 := n20_
             have NB499_458 := n21_
             have NB462_499 := n22_
             have NB499_462 := n23_
             have NB466_499 := n24_
             have NB499_466 := n25_
             have NB471_499 := n26_
             have NB499_471 := n27_
             have HB := n28_
             clear n0_ n1_ n2_ n3_ n4_ n5_ n6_ n7_ n8_ n9_ n10_ n11_ n12_ n13_ n14_ n15_ n16_ n17_ n18_ n19_ n20_ n21_ n22_ n23_ n24_ n25_ n26_ n27_ n28_
             have hHeld : w190.cell? ⟨gb444, 0, none⟩ = some (.slice A0_0 l0_0.length c0_0) ∧ w190.cell? ⟨gb445, 0, none⟩ = some (.slice A1_0 l1_0.length c1_0) := hS_
             obtain ⟨Ao191, co191, eo191⟩ := Kd.R_slice HO497.out
             (first | subst eo191 | (injection eo191 with f1_ f2_ f3_; have f4_ := f1_.symm; have f5_ := f3_.symm; clear f1_ f2_ f3_; subst f4_; subst f5_))
             refine norm_ (a' := ?_) ?_ ?_
             rotate_left
             ·simp only [putAll, Act.put, List.setIfInBounds_toArray, List.set_cons_zero, List.set_cons_succ]
              rfl
             refine one_ (i := 9) (N := none) #[true, true, true, true, true, true, true, true, true, true, false] rfl rfl (one_of HT_.out (by kernel_rfl)) (by decide) (fun K hK => ?_)
             have hs192 : w190.cell? ⟨gb499, 0, none⟩ = some (.slice none 0 0) := (blk_cell BK499.out 0).trans rfl
             have hfs192 := blk_frozen BK499.out 0
             have hns192_0 := NB444_499.out
             have hns192_1 := NB445_499.out
             have hns192_2 := NB458_499.out
             have hns192_3 := NB462_499.out
             have hns192_4 := NB466_499.out
             have hns192_5 := NB471_499.out
             have hms192_0 := NB499_444.out
             have hms192_1 := NB499_445.out
             have hms192_2 := NB499_458.out
             have hms192_3 := NB499_462.out
             have hms192_4 := NB499_466.out
             have hms192_5 := NB499_471.out
             refine skip_ (w1 := ?_) (by rfl) rfl ?_ ?_
             rotate_left
             ·go_simp
              rfl
             refine hK.out _ _ ⟨((cell_far (p := ⟨gb499, _, none⟩) NB444_499.out _).trans (hHeld.1)), ((cell_far (p := ⟨gb499, _, none⟩) NB445_499.out _).trans (hHeld.2))⟩ (fun hHeld => ?_)
             clear hK K
             refine pure_ (i := 10) (N := some 16) (v := ?_) (a' := ?_) #[true, true, true, true, true, true, true, true, true, true, true] rfl rfl (any_of HT_.out (by kernel_rfl)) (fun _ _ _ h => h) (Or.inl ⟨by rfl, ?_⟩) ?_ ?_
             rotate_left
             ·intro w'
              go_simp
              with_reducible rfl
             rotate_left
             ·simp only [Act.put, List.setIfInBounds_toArray, List.set_cons_zero, List.set_cons_succ, i64_w, i32_w]
              rfl
             refine done_ (done_of HT_.out (by kernel_rfl)) ?_
             go_upto_region 32 with (fail)
             go_cut [110] (fun v110 wc => ∃ (kq : Nat) (x110_172 : Bool), v110 = .bool x110_172 ∧ Aside0 (laws_FnExactWithoutTrie.j2 kq t486 x110_172 t487 = some true) ∧ Aside0 (kq ≤ kj106) ∧ Aside0 (Kd.R k67 67 wc w.heap.size (fun k_ => some k_ ≠ ((.slice Ao47 t482.length co47) : Value).ownBlock ∧ some k_ ≠ ((.slice Ao56 t484.length co56) : Value).ownBlock ∧ some k_ ≠ ((.slice Ao65 t467.length co65) : Value).ownBlock ∧ some k_ ≠ ((.slice Ao191 t495.length co191) : Value).ownBlock) (.slice Ao41 t454.length co41) t454) ∧ Aside0 (Kd.R k67 67 wc w.heap.size (fun k_ => some k_ ≠ ((.slice Ao41 t454.length co41) : Value).ownBlock ∧ some k_ ≠ ((.slice Ao56 t484.length co56) : Value).ownBlock ∧ some k_ ≠ ((.slice Ao65 t467.length co65) : Value).ownBlock ∧ some k_ ≠ ((.slice Ao191 t495.length co191) : Value).ownBlock) (.slice Ao47 t482.length co47) t482) ∧ Aside0 (Kd.R k67 67 wc w.heap.size (fun k_ => some k_ ≠ ((.slice Ao41 t454.length co41) : Value).ownBlock ∧ some k_ ≠ ((.slice Ao47 t482.length co47) : Value).ownBlock ∧ some k_ ≠ ((.slice Ao65 t467.length co65) : Value).ownBlock ∧ some k_ ≠ ((.slice Ao191 t495.length co191) : Value).ownBlock) (.slice Ao56 t484.length co56) t484) ∧ Aside0 (Kd.R k67 67 wc w.heap.size (fun k_ => some k_ ≠ ((.slice Ao41 t454.length co41) : Value).ownBlock ∧ some k_ ≠ ((.slice Ao47 t482.length co47) : Value).ownBlock ∧ some k_ ≠ ((.slice Ao56 t484.length co56) : Value).ownBlock ∧ some k_ ≠ ((.slice Ao191 t495.length co191) : Value).ownBlock) (.slice Ao65 t467.length co65) t487) ∧ Aside0 (Kd.R k67 67 wc w.heap.size (fun k_ => some k_ ≠ ((.slice Ao41 t454.length co41) : Value).ownBlock ∧ some k_ ≠ ((.slice Ao47 t482.length co47) : Value).ownBlock ∧ some k_ ≠ ((.slice Ao56 t484.length co56) : Value).ownBlock ∧ some k_ ≠ ((.slice Ao65 t467.length co65) : Value).ownBlock) (.slice Ao191 t495.length co191) t495) ∧ Aside0 (wc.heap[gb444]? = some (.cells #[(.slice A0_0 l0_0.length c0_0)] 32 (0, 0))) ∧ Aside0 (wc.heap[gb445]? = some (.cells #[(.slice A1_0 l1_0.length c1_0)] 32 (0, 0))) ∧ Aside0 (wc.heap[gb458]? = some (.cells #[(.slice Ao41 t454.length co41)] 24 (0, 0))) ∧ Aside0 (wc.heap[gb462]? = some (.cells #[(.slice Ao47 t482.length co47)] 24 (0, 0))) ∧ Aside0 (wc.heap[gb466]? = some (.cells #[(.slice Ao56 t484.length co56)] 24 (0, 0))) ∧ Aside0 (wc.heap[gb471]? = some (.cells #[(.slice Ao65 t467.length co65)] 24 (0, 0))) ∧ Aside0 (wc.heap[gb499]? = some (.cells #[(.slice Ao191 t495.length co191)] 24 (0, 0))) ∧ Aside0 (Below w.heap.size w wc))
             case first =>
              have H := HC173.out
              clear HC173
              replace H := Option.bind_eq_some_iff.mp H
              obtain ⟨t500, A1930, H⟩ := H
              replace H : (if t500 = true then (laws_FnExactWithoutTrie.j2 kj106 t486 (t498 != t457) t487) else (laws_FnExactWithoutTrie.j2 kj106 t486 true t487)) = some true := H
              have A193 := Aside0.mk A1930
              clear A1930
              by_cases c194 : t500 = true
              ·subst c194
               have H1 : (laws_FnExactWithoutTrie.j2 kj106 t486 (t498 != t457) t487) = some true := by rw [if_pos rfl] at H; exact H
               clear H
               have H := H1
               clear H1
               have H' := Aside0.mk H
               clear H
               have hnb195 := NB499_444.out
               have hnc195 := NB444_499.out
               have hnb196 := NB499_445.out
               have hnc196 := NB445_499.out
               have hnb197 := NB499_458.out
               have hnc197 := NB458_499.out
               have hnb198 := NB499_462.out
               have hnc198 := NB462_499.out
               have hnb199 := NB499_466.out
               have hnc199 := NB466_499.out
               have hnb200 := NB499_471.out
               have hnc200 := NB471_499.out
               have hcz201_0 : w190.cell? ⟨gb499, 0, none⟩ = some (.slice none 0 0) := (blk_cell BK499.out 0).trans rfl
               have hfz201_0 := blk_frozen BK499.out 0
               have hnb202 := NB458_444.out
               have hnc202 := NB444_458.out
               have hnb203 := NB458_445.out
               have hnc203 := NB445_458.out
               have hnb204 := NB458_462.out
               have hnc204 := NB462_458.out
               have hnb205 := NB458_466.out
               have hnc205 := NB466_458.out
               have hnb206 := NB458_471.out
               have hnc206 := NB471_458.out
               have hcz207_0 : w190.cell? ⟨gb458, 0, none⟩ = some (.slice Ao41 t454.length co41) := (blk_cell BK458.out 0).trans rfl
               have hfz207_0 := blk_frozen BK458.out 0
               go_wp2_with (first | ((with_reducible refine gate_callee (f := 9) rfl ?_); refine goesL_ (some 104) rfl rfl Try.func9 (by kernel_rfl) rfl #[.agg #[.slice Ao191 t495.length co191], .agg #[.slice Ao41 t454.length co41]] rfl (by (try simp only [List.map_toArray, List.map_cons, List.map_nil]); first | done | rfl | (simp only [List.length_drop, List.length_take]; rfl)) ?_; (with_reducible refine (laws_eqTrie.calls kj106 _ _ t495 _ _ t454 true _ ?side1 ?side2 ?side3 ?side4 A193.out).mono ?_); (case side1 => refine (Kd.R_reads' (e := 67) (base := w.heap.size) (ok := fun k_ => (some k_ ≠ (v490 : Value).ownBlock ∧ (some k_ ≠ (v493 : Value).ownBlock ∧ (some k_ ≠ (.slice Ao41 t454.length co41 : Value).ownBlock ∧ (some k_ ≠ (.slice Ao47 t482.length co47 : Value).ownBlock ∧ (some k_ ≠ (.slice Ao56 t484.length co56 : Value).ownBlock ∧ some k_ ≠ (.slice Ao65 t467.length co65 : Value).ownBlock)))))) (n := t495.length) (c := co191) ?_).2.2; exact (by (with_reducible repeat (first | apply Kd.R_alloc | apply Kd.R_drewN | apply Kd.R_drew)); exact (Kd.R_mono (R_same_ (Kd.R_far (p := ⟨gb499, 0, none⟩) (Kd.R_types HO497.out BK499.out (by decide)) (fun _ hk => hk.2) (.slice Ao191 t495.length co191)) rfl) (fun _ h_ => h_.1)))); (case side2 => exact (Kd.R_reads' HO497.out).2.1); (case side3 => refine (Kd.R_reads' (e := 67) (base := w.heap.size) (ok := fun k_ => (some k_ ≠ (v490 : Value).ownBlock ∧ (some k_ ≠ (v493 : Value).ownBlock ∧ (some k_ ≠ (.slice Ao191 t495.length co191 : Value).ownBlock ∧ (some k_ ≠ (.slice Ao47 t482.length co47 : Value).ownBlock ∧ (some k_ ≠ (.slice Ao56 t484.length co56 : Value).ownBlock ∧ some k_ ≠ (.slice Ao65 t467.length co65 : Value).ownBlock)))))) (n := t454.length) (c := co41) ?_).2.2; exact (by (with_reducible repeat (first | apply Kd.R_alloc | apply Kd.R_drewN | apply Kd.R_drew)); exact (Kd.R_mono (R_same_ (Kd.R_far (p := ⟨gb499, 0, none⟩) (Kd.R_types HO_459000.out BK499.out (by decide)) (fun _ hk => hk.2) (.slice Ao191 t495.length co191)) rfl) (fun _ h_ => h_.1)))); (case side4 => exact (Kd.R_reads' HO_459000.out).2.1); rintro e w208 ⟨rfl, hb⟩; refine ⟨_, rfl, ?_⟩; have n0_ := Aside0.mk (Kd.R_below (by (with_reducible repeat (first | apply Kd.R_alloc | apply Kd.R_drewN | apply Kd.R_drew)); exact (Kd.R_mono (R_same_ (Kd.R_far (p := ⟨gb499, 0, none⟩) (Kd.R_types HO_459000.out BK499.out (by decide)) (fun _ hk => hk.2) (.slice Ao191 t495.length co191)) rfl) (fun _ h_ => h_.1))) hb); have n1_ := Aside0.mk (Kd.R_below (by (with_reducible repeat (first | apply Kd.R_alloc | apply Kd.R_drewN | apply Kd.R_drew)); exact (Kd.R_mono (R_same_ (Kd.R_far (p := ⟨gb499, 0, none⟩) (Kd.R_types HO_463000.out BK499.out (by decide)) (fun _ hk => hk.2) (.slice Ao191 t495.length co191)) rfl) (fun _ h_ => h_.1))) hb); have n2_ := Aside0.mk (Kd.R_below (by (with_reducible repeat (first | apply Kd.R_alloc | apply Kd.R_drewN | apply Kd.R_drew)); exact (Kd.R_mono (R_same_ (Kd.R_far (p := ⟨gb499, 0, none⟩) (Kd.R_types HO_467000.out BK499.out (by decide)) (fun _ hk => hk.2) (.slice Ao191 t495.length co191)) rfl) (fun _ h_ => h_.1))) hb); have n3_ := Aside0.mk (Kd.R_below (by (with_reducible repeat (first | apply Kd.R_alloc | apply Kd.R_drewN | apply Kd.R_drew)); exact (Kd.R_mono (R_same_ (Kd.R_far (p := ⟨gb499, 0, none⟩) (Kd.R_types HO_472000.out BK499.out (by decide)) (fun _ hk => hk.2) (.slice Ao191 t495.length co191)) rfl) (fun _ h_ => h_.1))) hb); have n4_ := Aside0.mk (Kd.R_below (by (with_reducible repeat (first | apply Kd.R_alloc | apply Kd.R_drewN | apply Kd.R_drew)); exact (Kd.R_mono (R_same_ (Kd.R_far (p := ⟨gb499, 0, none⟩) (Kd.R_types HO491.out BK499.out (by decide)) (fun _ hk => hk.2) (.slice Ao191 t495.length co191)) rfl) (fun _ h_ => h_.1))) hb); have n5_ := Aside0.mk (Kd.R_below (by (with_reducible repeat (first | apply Kd.R_alloc | apply Kd.R_drewN | apply Kd.R_drew)); exact (Kd.R_mono (R_same_ (Kd.R_far (p := ⟨gb499, 0, none⟩) (Kd.R_types HO494.out BK499.out (by decide)) (fun _ hk => hk.2) (.slice Ao191 t495.length co191)) rfl) (fun _ h_ => h_.1))) hb); have n6_ := Aside0.mk (Kd.R_below (by (with_reducible repeat (first | apply Kd.R_alloc | apply Kd.R_drewN | apply Kd.R_drew)); exact (Kd.R_mono (R_same_ (Kd.R_far (p := ⟨gb499, 0, none⟩) (Kd.R_types HO497.out BK499.out (by decide)) (fun _ hk => hk.2) (.slice Ao191 t495.length co191)) rfl) (fun _ h_ => h_.1))) hb); have n7_ := Aside0.mk (blk_below (g := gb444) (o := .cells #[.slice A0_0 l0_0.length c0_0] 32 (0, 0)) (by (with_reducible repeat (first | refine blk_drewN ?_ _ | refine blk_drew ?_ | refine blk_alloc ?_ _)); refine blk_far ?_ NB444_499.out _; (with_reducible repeat (first | refine blk_drewN ?_ _ | refine blk_drew ?_ | refine blk_alloc ?_ _)); exact BK444.out) hb); have n8_ := Aside0.mk (blk_below (g := gb445) (o := .cells #[.slice A1_0 l1_0.length c1_0] 32 (0, 0)) (by (with_reducible repeat (first | refine blk_drewN ?_ _ | refine blk_drew ?_ | refine blk_alloc ?_ _)); refine blk_far ?_ NB445_499.out _; (with_reducible repeat (first | refine blk_drewN ?_ _ | refine blk_drew ?_ | refine blk_alloc ?_ _)); exact BK445.out) hb); have n9_ := Aside0.mk (blk_below (g := gb458) (o := .cells #[.slice Ao41 t454.length co41] 24 (0, 0)) (by (with_reducible repeat (first | refine blk_drewN ?_ _ | refine blk_drew ?_ | refine blk_alloc ?_ _)); refine blk_far ?_ NB458_499.out _; (with_reducible repeat (first | refine blk_drewN ?_ _ | refine blk_drew ?_ | refine blk_alloc ?_ _)); exact BK458.out) hb); have n10_ := Aside0.mk (blk_below (g := gb462) (o := .cells #[.slice Ao47 t482.length co47] 24 (0, 0)) (by (with_reducible repeat (first | refine blk_drewN ?_ _ | refine blk_drew ?_ | refine blk_alloc ?_ _)); refine blk_far ?_ NB462_499.out _; (with_reducible repeat (first | refine blk_drewN ?_ _ | refine blk_drew ?_ | refine blk_alloc ?_ _)); exact BK462.out) hb); have n11_ := Aside0.mk (blk_below (g := gb466) (o := .cells #[.slice Ao56 t484.length co56] 24 (0, 0)) (by (with_reducible repeat (first | refine blk_drewN ?_ _ | refine blk_drew ?_ | refine blk_alloc ?_ _)); refine blk_far ?_ NB466_499.out _; (with_reducible repeat (first | refine blk_drewN ?_ _ | refine blk_drew ?_ | refine blk_alloc ?_ _)); exact BK466.out) hb); have n12_ := Aside0.mk (blk_below (g := gb471) (o := .cells #[.slice Ao65 t467.length co65] 24 (0, 0)) (by (with_reducible repeat (first | refine blk_drewN ?_ _ | refine blk_drew ?_ | refine blk_alloc ?_ _)); refine blk_far ?_ NB471_499.out _; (with_reducible repeat (first | refine blk_drewN ?_ _ | refine blk_drew ?_ | refine blk_alloc ?_ _)); exact BK471.out) hb); have n13_ := Aside0.mk (blk_below (g := gb499) (o := .cells #[.slice Ao191 t495.length co191] 24 (0, 0)) (by (with_reducible repeat (first | refine blk_drewN ?_ _ | refine blk_drew ?_ | refine blk_alloc ?_ _)); refine blk_put (cs := #[.slice none 0 0]) ?_ 0 _ rfl; (with_reducible repeat (first | refine blk_drewN ?_ _ | refine blk_drew ?_ | refine blk_alloc ?_ _)); exact BK499.out) hb); have n14_ := Aside0.mk (below_step (by repeat (first | (with_reducible first | exact HB.out | apply below_alloc | apply pw_below_drewN | apply below_drew1 | refine below_set ?_ GE444.out | refine below_set ?_ GE445.out | refine below_set ?_ GE458.out | refine below_set ?_ GE462.out | refine below_set ?_ GE466.out | refine below_set ?_ GE471.out | refine below_set ?_ GE499.out) | exact HB.out)) hb); clear HO_459000; clear HO_463000; clear HO_467000; clear HO_472000; clear HO491; clear HO494; clear HO497; clear BK444; clear BK445; clear BK458; clear BK462; clear BK466; clear BK471; clear BK499; clear HB; have HO_459000 := n0_; have HO_463000 := n1_; have HO_467000 := n2_; have HO_472000 := n3_; have HO491 := n4_; have HO494 := n5_; have HO497 := n6_; have BK444 := n7_; have BK445 := n8_; have BK458 := n9_; have BK462 := n10_; have BK466 := n11_; have BK471 := n12_; have BK499 := n13_; have HB := n14_; clear n0_ n1_ n2_ n3_ n4_ n5_ n6_ n7_ n8_ n9_ n10_ n11_ n12_ n13_ n14_; (try clear hb); (try clear hb2); (try clear hk); (try clear hi)))
               go_meet
               case rel => exact ⟨_, ((t498 != t457)), (by first | rfl | (simp; done) | (simp [*]; done)), H', ⟨by have := HJ24.out; have := HJ106.out; first | omega | exact Nat.le_refl _⟩, ⟨by (try simp only [hl463000_106]); (try simp only [hl467000_106]); (with_reducible repeat (first | apply Kd.R_alloc | apply Kd.R_drewN | apply Kd.R_drew)); exact Kd.R_mono HO_459000.out (fun _ hk => ⟨hk.2.2.2.1, ⟨hk.2.2.2.2.1, ⟨hk.2.2.2.2.2, hk.2.2.1⟩⟩⟩)⟩, ⟨by (try simp only [hl463000_106]); (try simp only [hl467000_106]); (with_reducible repeat (first | apply Kd.R_alloc | apply Kd.R_drewN | apply Kd.R_drew)); exact Kd.R_mono HO_463000.out (fun _ hk => ⟨hk.2.2.2.1, ⟨hk.2.2.2.2.1, ⟨hk.2.2.2.2.2, hk.2.2.1⟩⟩⟩)⟩, ⟨by (try simp only [hl463000_106]); (try simp only [hl467000_106]); (with_reducible repeat (first | apply Kd.R_alloc | apply Kd.R_drewN | apply Kd.R_drew)); exact Kd.R_mono HO_467000.out (fun _ hk => ⟨hk.2.2.2.1, ⟨hk.2.2.2.2.1, ⟨hk.2.2.2.2.2, hk.2.2.1⟩⟩⟩)⟩, ⟨by (try simp only [hl463000_106]); (try simp only [hl467000_106]); (with_reducible repeat (first | apply Kd.R_alloc | apply Kd.R_drewN | apply Kd.R_drew)); exact Kd.R_mono HO_472000.out (fun _ hk => ⟨hk.2.2.2.1, ⟨hk.2.2.2.2.1, ⟨hk.2.2.2.2.2, hk.2.2.1⟩⟩⟩)⟩, ⟨by (try simp only [hl463000_106]); (try simp only [hl467000_106]); (with_reducible repeat (first | apply Kd.R_alloc | apply Kd.R_drewN | apply Kd.R_drew)); exact Kd.R_mono HO497.out (fun _ hk => ⟨hk.2.2.1, ⟨hk.2.2.2.1, ⟨hk.2.2.2.2.1, hk.2.2.2.2.2⟩⟩⟩)⟩, ⟨by (try simp only [hl463000_106]); (try simp only [hl467000_106]); (with_reducible repeat (first | refine blk_drewN ?_ _ | refine blk_drew ?_ | refine blk_alloc ?_ _)); exact BK444.out⟩, ⟨by (try simp only [hl463000_106]); (try simp only [hl467000_106]); (with_reducible repeat (first | refine blk_drewN ?_ _ | refine blk_drew ?_ | refine blk_alloc ?_ _)); exact BK445.out⟩, ⟨by (try simp only [hl463000_106]); (try simp only [hl467000_106]); (with_reducible repeat (first | refine blk_drewN ?_ _ | refine blk_drew ?_ | refine blk_alloc ?_ _)); exact BK458.out⟩, ⟨by (try simp only [hl463000_106]); (try simp only [hl467000_106]); (with_reducible repeat (first | refine blk_drewN ?_ _ | refine blk_drew ?_ | refine blk_alloc ?_ _)); exact BK462.out⟩, ⟨by (try simp only [hl463000_106]); (try simp only [hl467000_106]); (with_reducible repeat (first | refine blk_drewN ?_ _ | refine blk_drew ?_ | refine blk_alloc ?_ _)); exact BK466.out⟩, ⟨by (try simp only [hl463000_106]); (try simp only [hl467000_106]); (with_reducible repeat (first | refine blk_drewN ?_ _ | refine blk_drew ?_ | refine blk_alloc ?_ _)); exact BK471.out⟩, ⟨by (try simp only [hl463000_106]); (try simp only [hl467000_106]); (with_reducible repeat (first | refine blk_drewN ?_ _ | refine blk_drew ?_ | refine blk_alloc ?_ _)); exact BK499.out⟩, ⟨by repeat (first | (with_reducible first | exact HB.out | apply below_alloc | apply pw_below_drewN | apply below_drew1 | refine below_set ?_ GE444.out | refine below_set ?_ GE445.out | refine below_set ?_ GE458.out | refine below_set ?_ GE462.out | refine below_set ?_ GE466.out | refine below_set ?_ GE471.out | refine below_set ?_ GE499.out) | exact HB.out)⟩⟩
              ·replace c194 := Bool.eq_false_iff.mpr c194
               subst c194
               have H1 : (laws_FnExactWithoutTrie.j2 kj106 t486 true t487) = some true := by rw [if_neg (show ¬ (false = true) by decide)] at H; exact H
               exact absurd H1 (by cases kj106 <;> simp [laws_FnExactWithoutTrie.j2])
             case rest =>
              clear HC173
              try clear c1
              try clear c2
              try clear p2
              try clear c9
              try clear c14
              try clear c17
              try clear c19
              try clear c20
              try clear c21
              try clear c22
              try clear c194
              try clear c195
              try clear c196
              try clear c197
              try clear c198
              try clear c199
              try clear c200
              try clear c202
              try clear c203
              try clear c204
              try clear c205
              try clear c206
              try clear c209
              try clear c210
              try clear c211
              try clear c212
              try clear c213
              try clear c214
              try clear c216
              try clear c217
              try clear c218
              try clear c219
              try clear c220
              try clear hcz201_0
              try clear hcz207_0
              try clear hcz215_0
              try clear hcz221_0
              try clear hfz201_0
              try clear hfz207_0
              try clear hfz215_0
              try clear hfz221_0
              obtain ⟨kq, x110_172, rfl, HA, HJ172, HO_459000, HO_463000, HO_467000, HO_472000, HO_500000, BK444, BK445, BK458, BK462, BK466, BK471, BK499, HB⟩ := hcut
              have hl472000_172 := (Kd.R_reads' HO_472000.out).1
              rw [hl472000_172] at HO_472000
              (try simp only [hl472000_172])
              (try simp only [hl472000_172] at BK444)
              (try simp only [hl472000_172] at BK445)
              (try simp only [hl472000_172] at BK458)
              (try simp only [hl472000_172] at BK462)
              (try simp only [hl472000_172] at BK466)
              (try simp only [hl472000_172] at BK471)
              (try simp only [hl472000_172] at BK499)
              (try simp only [hl472000_172] at HO_459000)
              (try simp only [hl472000_172] at HO_463000)
              (try simp only [hl472000_172] at HO_467000)
              (try simp only [hl472000_172] at HO_500000)
              cases kq with
              | zero => exact absurd HA.out (by simp [laws_FnExactWithoutTrie.j2])
              | succ kj172 =>
               have H := HA.out
               clear HA
               simp only [laws_FnExactWithoutTrie.j2] at H
               by_cases c223 : x110_172 = true
               ·subst c223
                have H1 : (some false) = some true := by rw [if_pos rfl] at H; exact H
                exact absurd H1 (by simp)
               ·replace c223 := Bool.eq_false_iff.mpr c223
                subst c223
                have H1 : ((laws_heldTrie.f kj172 t487 1).bind fun t501 => (if t501 < 0 then (some false) else (if t501 = t486 then (some true) else (some false)))) = some true := by rw [if_neg (show ¬ (false = true) by decide)] at H; exact H
                clear H
                have H := H1
                clear H1
                replace H := Option.bind_eq_some_iff.mp H
                obtain ⟨t501, A2240, H⟩ := H
                replace H : (if t501 < 0 then (some false) else (if t501 = t486 then (some true) else (some false))) = some true := H
                have A224 := Aside0.mk A2240
                clear A2240
                by_cases c225 : t501 < 0
                ·rw [if_pos c225] at H
                 exact absurd H (by simp)
                ·rw [if_neg c225] at H
                 have c225b0 : decide (t501 < 0) = false := decide_eq_false c225
                 clear c225
                 by_cases c234 : t501 = t486
                 ·rw [if_pos c234] at H
                  have c234b0 : (t501 == t486) = true := beq_iff_eq.mpr c234
                  have c234b1 : (t501 != t486) = false := bne_eq_false_iff_eq.mpr c234
                  clear c234
                  (first | (obtain rfl := Option.some.inj H) | (have hH_ := Option.some.inj H; try simp only [hH_]))
                  have hnb235 := NB471_444.out
                  have hnc235 := NB444_471.out
                  have hnb236 := NB471_445.out
                  have hnc236 := NB445_471.out
                  have hnb237 := NB471_458.out
                  have hnc237 := NB458_471.out
                  have hnb238 := NB471_462.out
                  have hnc238 := NB462_471.out
                  have hnb239 := NB471_466.out
                  have hnc239 := NB466_471.out
                  have hnb240 := NB471_499.out
                  have hnc240 := NB499_471.out
                  have hcz241_0 : wc.cell? ⟨gb471, 0, none⟩ = some (.slice Ao65 t487.length co65) := (blk_cell BK471.out 0).trans rfl
                  have hfz241_0 := blk_frozen BK471.out 0
                  go_wp2_with (first | ((with_reducible refine gate_callee (f := 11) rfl ?_); refine goesL_ (some 113) rfl rfl Try.func11 (by kernel_rfl) rfl #[.agg #[.slice Ao65 t487.length co65], .int .i64 1] rfl (by (try simp only [List.map_toArray, List.map_cons, List.map_nil]); first | done | rfl | (simp only [List.length_drop, List.length_take]; rfl)) ?_; (with_reducible refine (laws_heldTrie.calls kj172 _ _ t487 1 t501 _ ?side1 ?side2 A224.out).mono ?_); (case side1 => repeat (first | exact (Kd.R_reads' HO_472000.out).2.2 | (with_reducible refine Kd.C_alloc ?_ _) | (with_reducible refine Kd.C_drewN ?_ _) | (with_reducible refine Kd.C_drew ?_))); (case side2 => exact (Kd.R_reads' HO_472000.out).2.1); rintro e w242 ⟨rfl, hb⟩; refine ⟨_, rfl, ?_⟩; have n0_ := Aside0.mk (Kd.R_below (by (with_reducible repeat (first | apply Kd.R_alloc | apply Kd.R_drewN | apply Kd.R_drew)); exact HO_459000.out) hb); have n1_ := Aside0.mk (Kd.R_below (by (with_reducible repeat (first | apply Kd.R_alloc | apply Kd.R_drewN | apply Kd.R_drew)); exact HO_463000.out) hb); have n2_ := Aside0.mk (Kd.R_below (by (with_reducible repeat (first | apply Kd.R_alloc | apply Kd.R_drewN | apply Kd.R_drew)); exact HO_467000.out) hb); have n3_ := Aside0.mk (Kd.R_below (by (with_reducible repeat (first | apply Kd.R_alloc | apply Kd.R_drewN | apply Kd.R_drew)); exact HO_472000.out) hb); have n4_ := Aside0.mk (Kd.R_below (by (with_reducible repeat (first | apply Kd.R_alloc | apply Kd.R_drewN | apply Kd.R_drew)); exact HO_500000.out) hb); have n5_ := Aside0.mk (blk_below (g := gb444) (o := .cells #[.slice A0_0 l0_0.length c0_0] 32 (0, 0)) (by (with_reducible repeat (first | refine blk_drewN ?_ _ | refine blk_drew ?_ | refine blk_alloc ?_ _)); exact BK444.out) hb); have n6_ := Aside0.mk (blk_below (g := gb445) (o := .cells #[.slice A1_0 l1_0.length c1_0] 32 (0, 0)) (by (with_reducible repeat (first | refine blk_drewN ?_ _ | refine blk_drew ?_ | refine blk_alloc ?_ _)); exact BK445.out) hb); have n7_ := Aside0.mk (blk_below (g := gb458) (o := .cells #[.slice Ao41 t454.length co41] 24 (0, 0)) (by (with_reducible repeat (first | refine blk_drewN ?_ _ | refine blk_drew ?_ | refine blk_alloc ?_ _)); exact BK458.out) hb); have n8_ := Aside0.mk (blk_below (g := gb462) (o := .cells #[.slice Ao47 t482.length co47] 24 (0, 0)) (by (with_reducible repeat (first | refine blk_drewN ?_ _ | refine blk_drew ?_ | refine blk_alloc ?_ _)); exact BK462.out) hb); have n9_ := Aside0.mk (blk_below (g := gb466) (o := .cells #[.slice Ao56 t484.length co56] 24 (0, 0)) (by (with_reducible repeat (first | refine blk_drewN ?_ _ | refine blk_drew ?_ | refine blk_alloc ?_ _)); exact BK466.out) hb); have n10_ := Aside0.mk (blk_below (g := gb471) (o := .cells #[.slice Ao65 t487.length co65] 24 (0, 0)) (by (with_reducible repeat (first | refine blk_drewN ?_ _ | refine blk_drew ?_ | refine blk_alloc ?_ _)); exact BK471.out) hb); have n11_ := Aside0.mk (blk_below (g := gb499) (o := .cells #[.slice Ao191 t495.length co191] 24 (0, 0)) (by (with_reducible repeat (first | refine blk_drewN ?_ _ | refine blk_drew ?_ | refine blk_alloc ?_ _)); exact BK499.out) hb); have n12_ := Aside0.mk (below_step (by repeat (first | (with_reducible first | exact HB.out | apply below_alloc | apply pw_below_drewN | apply below_drew1 | refine below_set ?_ GE444.out | refine below_set ?_ GE445.out | refine below_set ?_ GE458.out | refine below_set ?_ GE462.out | refine below_set ?_ GE466.out | refine below_set ?_ GE471.out | refine below_set ?_ GE499.out) | exact HB.out)) hb); clear HO_459000; clear HO_463000; clear HO_467000; clear HO_472000; clear HO_500000; clear BK444; clear BK445; clear BK458; clear BK462; clear BK466; clear BK471; clear BK499; clear HB; have HO_459000 := n0_; have HO_463000 := n1_; have HO_467000 := n2_; have HO_472000 := n3_; have HO_500000 := n4_; have BK444 := n5_; have BK445 := n6_; have BK458 := n7_; have BK462 := n8_; have BK466 := n9_; have BK471 := n10_; have BK499 := n11_; have HB := n12_; clear n0_ n1_ n2_ n3_ n4_ n5_ n6_ n7_ n8_ n9_ n10_ n11_ n12_; (try clear hb); (try clear hb2); (try clear hk); (try clear hi)))
                  go_ret
                  exact ⟨by first | rfl | (simp [errW_none, errW_some] <;> rfl) | (simp [*, errW_none, errW_some] <;> rfl), by repeat (first | (with_reducible first | exact HB.out | apply below_alloc | apply pw_below_drewN | apply below_drew1 | refine below_set ?_ GE444.out | refine below_set ?_ GE445.out | refine below_set ?_ GE458.out | refine below_set ?_ GE462.out | refine below_set ?_ GE466.out | refine below_set ?_ GE471.out | refine below_set ?_ GE499.out) | exact HB.out)⟩
                 ·rw [if_neg c234] at H
                  exact absurd H (by simp)
            ·rw [if_neg c169] at H
             exact absurd H (by simp)
       ·replace c104 := Bool.eq_false_iff.mpr c104
        subst c104
        have H1 : (some false) = some true := by rw [if_neg (show ¬ (false = true) by decide)] at H; exact H
        exact absurd H1 (by simp)
      ·replace c101 := Bool.eq_false_iff.mpr c101
       subst c101
       have H1 : (some false) = some true := by rw [if_neg (show ¬ (false = true) by decide)] at H; exact H
       exact absurd H1 (by simp)
end Go.Proofs.Ytnjopfckahipnaa.Q
namespace Go.Proofs.Ytnjopfckahipnaa.Q
open Go.RowKit Go.Proofs.YtnjopfckahipnaaW.PrintWords Go.Proofs.YtnjopfckahipnaaW.PrintLast
theorem both_WithoutTrie (l0 l1 : List IN) : ∃ r, Ev (fun k => spec_WithoutTrie.f k l0 l1) r ∧ Ev (fun _ => impl_WithoutTrie.f l0 l1) r ∧ r.1.length ≤ 1048576 := by
  unfold spec_WithoutTrie.f impl_WithoutTrie.f
  have h2 := two_ev l0 l1
  rcases two_cases l0 l1 with hf | ⟨wa, wb, hva, hvb, rfl, rfl, ha, hb⟩
  · rw [hf] at h2 ⊢
    exact ⟨([], false), Ev.bind h2 (Ev.neg (by decide) (Ev.pure _)), Ev.pure _, by decide⟩
  · rw [ha, hb] at h2 ⊢
    have a3 := hva.len
    have b3 := hvb.len
    rw [wordsV_trie hva, wordsV_trie hvb]
    have e : (wa.filter fun x => hasW wb x == false) = wa.filter (fun x => !hasW wb x) := List.filter_congr fun x _ => by simp
    have ht := those_ev wa wb false (by omega) (by omega)
    rw [e] at ht
    exact ⟨(trieW (wa.filter (fun x => !hasW wb x)), true), Ev.bind h2 (Ev.pos rfl (Ev.bind (specWords hva) (Ev.bind (specWords hvb) (Ev.bind ht (Ev.bind (made_sub hva _) (Ev.pure _)))))), Ev.pure _, sub_le hva _⟩
theorem pure_FnExactWithoutTrie (l0 : List LN) (l1 : List LN) (hl_l0 : l0.length ≤ maxLen) (hI_l0 : ∀ x ∈ l0, I64 x.f0 ∧ I64 x.f1) (hl_l1 : l1.length ≤ maxLen) (hI_l1 : ∀ x ∈ l1, I64 x.f0 ∧ I64 x.f1) : ∃ k, laws_FnExactWithoutTrie.f k l0 l1 = some true := by
  refine Ev.ex ?_
  unfold laws_FnExactWithoutTrie.f
  by_cases h_l0 : l0.length ≤ 1048576
  case neg => exact Ev.bindc (szTrie_eq l0 (by unfold maxLen at hl_l0; omega)) (by rw [if_neg h_l0]; exact Ev.pos (by decide) (Ev.pure _))
  refine Ev.bindc (szTrie_eq l0 (by unfold maxLen at hl_l0; omega)) ?_
  rw [if_pos h_l0]
  refine Ev.neg (by omega) ?_
  have ht_l0 := toTrie_ev l0 (by omega)
  have hc_l0 : (cv l0).length ≤ 1048576 := by rw [cv_length]; omega
  rw [show (1048576 - (l0.length : Int)) = ((1048576 - l0.length : Nat) : Int) by omega]
  by_cases h_l1 : l1.length ≤ 1048576 - l0.length
  case neg => exact Ev.bindc (szTrie_gen l1 _ (by unfold maxLen at hl_l1; omega) (by omega)) (by rw [if_neg h_l1]; exact Ev.pos (by decide) (Ev.pure _))
  refine Ev.bindc (szTrie_gen l1 _ (by unfold maxLen at hl_l1; omega) (by omega)) ?_
  rw [if_pos h_l1]
  refine Ev.neg (by omega) ?_
  have ht_l1 := toTrie_ev l1 (by omega)
  have hc_l1 : (cv l1).length ≤ 1048576 := by rw [cv_length]; omega
  obtain ⟨r, e1, e2, hr⟩ := both_WithoutTrie (cv l0) (cv l1)
  have hq := eqTrie_ev r.1 r.1 hr
  refine (Ev.bind ht_l0 (Ev.bind ht_l1 (Ev.bind e1 (Ev.bind ht_l0 (Ev.bind ht_l1 (Ev.bind e2 (Ev.bind hq (Ev.pos (by simp) (Ev.succ ?_)))))))))
  simp only [laws_FnExactWithoutTrie.j0]
  obtain ⟨m0, hm0⟩ := markTrie2_ev (cv l0) 1 hc_l0 (by omega)
  obtain ⟨m1, hm1⟩ := markTrie2_ev (cv l1) (1 + 3 * (cv l0).length) hc_l1 (by omega)
  refine Ev.neg (by simp) (Ev.bind ht_l0 (Ev.bind (eqTrie_ev _ _ hc_l0) (Ev.pos (by simp) (Ev.bind ht_l1 (Ev.bind (eqTrie_ev _ _ hc_l1) (Ev.pos (by simp) (Ev.bind hm0 (Ev.bind hm1 (Ev.neg (by simp only; omega) (Ev.bind hq (Ev.pos (by simp) (Ev.succ ?_))))))))))))
  simp only [laws_FnExactWithoutTrie.j1]
  obtain ⟨ms, hs1, hs2⟩ := markH_ev r.1 hr
  refine Ev.neg (by simp) (Ev.bind hs1 (Ev.bind hs2 (Ev.neg (by omega) (Ev.pos rfl (Ev.bind ht_l0 (Ev.bind ht_l1 (Ev.bind e2 (Ev.bind hq (Ev.pos (by simp) (Ev.succ ?_))))))))))
  simp only [laws_FnExactWithoutTrie.j2]
  exact Ev.neg (by simp) (Ev.bind hs2 (Ev.neg (by omega) (Ev.pos rfl (Ev.pure _))))
end Go.Proofs.Ytnjopfckahipnaa.Q
namespace Go.Proofs.Ytnjopfckahipnaa.Pure
theorem FnExactWithoutTrie (l0 : List Q.LN) (l1 : List Q.LN) (hl_l0 : l0.length ≤ maxLen) (hI_l0 : ∀ x ∈ l0, Q.I64 x.f0 ∧ Q.I64 x.f1) (hl_l1 : l1.length ≤ maxLen) (hI_l1 : ∀ x ∈ l1, Q.I64 x.f0 ∧ Q.I64 x.f1) : ∃ k, Q.laws_FnExactWithoutTrie.f k l0 l1 = some true := Q.pure_FnExactWithoutTrie l0 l1 hl_l0 hI_l0 hl_l1 hI_l1
end Go.Proofs.Ytnjopfckahipnaa.Pure
namespace Go.Proofs.Ytnjopfckahipnaa.fnExactWithoutTrie
open Go.ChangeShapes Go.WideShapes Go.ChangeAt Go.RowKit
open Go.ChangeMaps (open_string shut_string)
set_option linter.unusedVariables false
theorem own : ownKnob Try.prog.godebug = none := by kernel_rfl
theorem laidOut : laidOutB Try.prog = true := by kernel_rfl
set_option maxRecDepth 100000 in
theorem lifted (os : Os) (started : os.Started) (H : Type) (enc : TypeId × Value → H) :
    ReturnsInHanded {} Try.checked os 5 .any (Rows.fnExactWithoutTrieSpec.pre6 enc Try.prog Try.f5 Rows.fnExactWithoutTrieRow.domain false) (Rows.fnExactWithoutTrieSpec.post enc Try.prog Try.f5 false true false false) := by
  refine returnsInHanded_of_change_sized (C := Try.checked) own started (by kernel_rfl) Try.func5
    (ChangeSpec.witness6 (enc := enc) (C := Try.checked) false ⟨#[], #[.agg #[.slice none 0 0], .agg #[.slice none 0 0]], []⟩ 8 (by kernel_rfl) (by kernel_rfl) (by kernel_rfl) (by kernel_rfl)) ?_
  intro W base args ds gs before hval0 hW hcnd hsz0 _
  have hsz : (DataW.weightsEach Try.prog (Try.f5.params.toList ++ Rows.fnExactWithoutTrieSpec.plain.varTypes Try.prog) (ds ++ gs)).all (· ≤ reachBytes) = true := hsz0
  have hval : ∀ (j : Nat) t v, Try.f5.params[j]? = some t → args[j]? = some v → Value.okWide Try.prog W .any base t v := hval0
  have hW' := hW
  obtain ⟨p, q, hA0, hV, rfl, hfz, hnd⟩ := hW
  have hA : DataW.TrodAll enc Try.prog W 0 (fun _ => true) true Try.f5.params.toList args.toList ds p := hA0
  rw [Try.params5] at hA hval hsz
  obtain ⟨v0, vs0, d0, ds0, p0, q0, hargs, rfl, rfl, h0, r0⟩ := trodAll_cons hA
  obtain ⟨v1, vs1, d1, ds1, p1, q1, rfl, rfl, rfl, h1, r1⟩ := trodAll_cons r0
  obtain ⟨rfl, rfl, rfl⟩ := trodAll_nil r1
  obtain rfl : args = #[v0, v1] := by cases args; simp_all
  obtain ⟨rfl, rfl⟩ := trodVars_none hV
  have k0 := h0
  have lt0 : ∀ x ∈ p0, x.block < W.heap.size := by obtain ⟨m, hm⟩ := k0; exact DataW.trod_lt m _ _ _ hm
  obtain ⟨A0, c0, l0, rfl, hC0, hc0, hl0, hI0⟩ := Q.open_trie (hval 0 32 v0 rfl rfl) h0
  have k1 := h1
  have lt1 : ∀ x ∈ p1, x.block < W.heap.size := by obtain ⟨m, hm⟩ := k1; exact DataW.trod_lt m _ _ _ hm
  obtain ⟨A1, c1, l1, rfl, hC1, hc1, hl1, hI1⟩ := Q.open_trie (hval 1 32 v1 rfl rfl) h1
  clear hA0 hval0 hsz0 hsz
  obtain ⟨k, hk⟩ := Pure.FnExactWithoutTrie l0 l1 hl0 hI0 hl1 hI1
  refine (Q.laws_FnExactWithoutTrie.calls k A0 c0 l0 A1 c1 l1 true W hC0 hc0 hC1 hc1 hk).mono fun e W' ⟨he, bel0⟩ => ?_
  have bel : Below W.heap.size W W' := bel0
  subst he
  exact ⟨_, rfl, _, _, _, [], _, [], hW', trodAll_mk1 (shut_bool Try.underlying4 _), (trodAll_cons_mk (Below.trod laidOut (by kernel_rfl) (of_decide_eq_true (by kernel_rfl)) k0 bel lt0) (trodAll_cons_mk (Below.trod laidOut (by kernel_rfl) (of_decide_eq_true (by kernel_rfl)) k1 bel lt1) trodAll_mk0)), rfl, bel.frame _, fun h => by cases h⟩
theorem over : Rows.fnExactWithoutTrieRow.holds Try.pinned (OpenSpec.ofChange Rows.fnExactWithoutTrieSpec) :=
  OpenClaim.holds_of_wide 5 Try.f5 rfl rfl rfl rfl rfl rfl rfl ⟨rfl, rfl, rfl, rfl, rfl⟩ rfl rfl rfl rfl rfl (by kernel_rfl) Try.func5 (by kernel_rfl)
    (of_decide_eq_true (by kernel_rfl)) (by unfold Func.isWrapper; first | (rw [if_pos (by decide +kernel)]; kernel_rfl) | (rw [if_neg (by decide +kernel)]; exact ⟨rfl, rfl⟩))
    (fun os started H enc _ => lifted os started H enc)
theorem proved : Rows.FnExactWithoutTrieSaid := over
end Go.Proofs.Ytnjopfckahipnaa.fnExactWithoutTrie
namespace Go.Proofs.Ytnjopfckahipnaa
theorem fnExactWithoutTrie_holds : Rows.FnExactWithoutTrieSaid := fnExactWithoutTrie.proved
end Go.Proofs.Ytnjopfckahipnaa
