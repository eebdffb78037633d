/- The law FnExactMeetTries: for every input the call answers true and leaves its arguments as they were. -/
import Derived.Test.YtnjopfckahipnaaA0
import Derived.Test.YtnjopfckahipnaaA1
import Derived.Test.YtnjopfckahipnaaA2
import Derived.Test.YtnjopfckahipnaaA3
import Derived.Test.YtnjopfckahipnaaA4
import Derived.Test.YtnjopfckahipnaaProg
import Derived.Below
import Derived.Deep.Draws
import Derived.Deep.AppendLies
import Derived.Maps.AppendAt
import Derived.OwnWalk
import Derived.Laws.BytesArg
import Derived.Laws.MakeOwn
import Derived.Laws.OwnMore
import Derived.Deep.OwnRows
import Derived.Tactics
import Derived.Lib.ConvBytes
import Derived.Laws.Slices
import Derived.WalkKit
import Derived.KernelRfl
import Derived.RowKit3
import Derived.Deep.LoopGhost
import Derived.Deep.QuietTactic
import Derived.BigQuiet
import Derived.WideLaws
import Derived.Deep.DeepCutAuto
import Derived.Deep.CutBlock
import Derived.Deep.RegionHeld3
import Derived.Laws.Rows
import Derived.Lib.AppendStr
import Derived.ArgAppend
import Derived.Laws.IdiomCopy
import Derived.OrdersHeld
import Derived.Laws.BitsLemmas
import Derived.RowKit
import Derived.Lib.SlicesCompact
import Derived.Maps.Own
import Derived.StringKeys
import Derived.Maps.OwnOps
import Derived.Maps.OwnSet
import Derived.Maps.Views
import Derived.Laws.AppendOwn
import Derived.Deep.DrawnRows
import Derived.Shelf.Sort.Plain
import Derived.Shelf.Slices.CompactS
import Derived.Shelf.Slices.In.SortNone
import Derived.RangeFuncBox
import Derived.RangeFuncLeaves
import Derived.Shelf.Abstract
import Derived.OwnWalkIn
import Derived.TacticsInMore
import Derived.LoopNIn
import Derived.LoopIn
import Derived.Lib.OwnBridge
import Derived.Sort.OwnSorted
import Derived.Sort.Grow
import Derived.Shelf.Strings.OnBuilder
import Derived.Ground.NamesProg
import Derived.Ground.SlgfProg
import Derived.Sort.Walk0
import Derived.Lib.Strings
import Derived.Shelf.SlicesE.DeleteFunc
import Derived.Lib.SliceRun
import Derived.Lib.SlKept
import Derived.Deep.Slices
import Derived.Deep.Fields
import Derived.ChangeSame
import Derived.ChangeArms
import Derived.WideShapes
import Derived.Test.YtnjopfckahipnaaRows
import Derived.ProofKit
import Derived.OpenShut
import Derived.ShutString
import Derived.ChangeOld
import Derived.SizedLaws
import Derived.Carry
set_option linter.unusedVariables false
set_option linter.unusedSimpArgs false
namespace Go.Proofs.Ytnjopfckahipnaa.Q
open Go.RowKit Go.Proofs.YtnjopfckahipnaaW.PrintWords Go.Proofs.YtnjopfckahipnaaW.PrintLast Go.Proofs.YtnjopfckahipnaaW.PrintMore
attribute [local go_sem] run_field_23 run_field_24 run_field_31 run_field_32 run_field_38 run_field_39 isSome_setCell max2_int min2_int max_two min_two max_three min_three max_four min_four   -- for this text's walks alone
set_option linter.unusedVariables false
set_option linter.unusedSimpArgs false
mutual
def laws_FnExactMeetTries.j0 : Nat → Bool → Bool → Bool → List (S72) → List (S72) → List (S67) → List (S67) → List (S67) → List (S67) → Option (Bool)
  | 0, _, _, _, _, _, _, _, _, _ => none
  | k + 1, x7, x11, x53, x370000, x371000, x384000, x388000, x392000, x397000 => if x53 = true then (some false) else ((laws_toTrie.f k x370000).bind fun t398 => ((laws_eqTrie.f k x388000 t398).bind fun t401 => (if t401 = true then ((laws_toTrie.f k x371000).bind fun t402 => ((laws_eqTrie.f k x392000 t402).bind fun t405 => (if t405 = true then ((laws_markTrie.f k x388000 1).bind fun bt406 => ((laws_markTrie.f k x392000 bt406.1).bind fun bt408 => (if bt408.1 < 0 then (laws_FnExactMeetTries.j1 k x7 true x370000 x371000 x384000 x397000) else ((laws_eqTrie.f k x397000 x384000).bind fun t410 => (if t410 = true then (laws_FnExactMeetTries.j1 k x7 (x11 != x7) x370000 x371000 x384000 x397000) else (laws_FnExactMeetTries.j1 k x7 true x370000 x371000 x384000 x397000)))))) else (some false)))) else (some false))))
def laws_FnExactMeetTries.j1 : Nat → Bool → Bool → List (S72) → List (S72) → List (S67) → List (S67) → Option (Bool)
  | 0, _, _, _, _, _, _ => none
  | k + 1, x7, x82, x370000, x371000, x384000, x397000 => if x82 = true then (some false) else ((laws_markTrie.f k x397000 1).bind fun bt411 => ((laws_heldTrie.f k bt411.2 1).bind fun t413 => (if t413 < 0 then (some false) else (if t413 = bt411.1 then ((laws_toTrie.f k x370000).bind fun t414 => ((laws_toTrie.f k x371000).bind fun t417 => ((impl_MeetTries.f t414 t417).bind fun bt420 => ((laws_eqTrie.f k bt420.1 x384000).bind fun t425 => (if t425 = true then (laws_FnExactMeetTries.j2 k bt411.1 (bt420.2 != x7) bt411.2) else (laws_FnExactMeetTries.j2 k bt411.1 true bt411.2)))))) else (some false)))))
def laws_FnExactMeetTries.j2 : Nat → Int → Bool → List (S67) → Option (Bool)
  | 0, _, _, _ => none
  | k + 1, x13, x110, x397000 => if x110 = true then (some false) else ((laws_heldTrie.f k x397000 1).bind fun t426 => (if t426 < 0 then (some false) else (if t426 = x13 then (some true) else (some false))))
end
def laws_FnExactMeetTries.f (k : Nat) (l0_0 : List (S72)) (l1_0 : List (S72)) : Option (Bool) := (laws_szTrie.f l0_0 1048576).bind fun t371 => (if t371 < 0 then (some true) else ((laws_szTrie.f l1_0 t371).bind fun t372 => (if t372 < 0 then (some true) else ((laws_toTrie.f k l0_0).bind fun t373 => ((laws_toTrie.f k l1_0).bind fun t376 => ((spec_MeetTries.f k t373 t376).bind fun bt379 => ((laws_toTrie.f k l0_0).bind fun t384 => ((laws_toTrie.f k l1_0).bind fun t388 => ((impl_MeetTries.f t384 t388).bind fun bt392 => ((laws_eqTrie.f k bt392.1 bt379.1).bind fun t397 => (if t397 = true then (laws_FnExactMeetTries.j0 k bt379.2 bt392.2 (bt392.2 != bt379.2) l0_0 l1_0 bt379.1 t384 t388 bt392.1) else (laws_FnExactMeetTries.j0 k bt379.2 bt392.2 true l0_0 l1_0 bt379.1 t384 t388 bt392.1))))))))))))
def laws_FnExactMeetTries.T8 : Bool × List (List Nat × List Nat) := (true, [([], []), ([0], [0]), ([], []), ([2, 1], [2]), ([1, 3, 3], [1, 3]), ([4], [4]), ([5], [5]), ([5], [5]), ([], []), ([8, 6, 4, 0, 1, 2, 3, 4, 5, 6, 8], [6, 8]), ([7, 9, 0, 1, 2, 3, 4, 5, 6, 7, 8, 9], [7])])
def laws_FnExactMeetTries.B8 : List Nat := [0, 1, 0, 7, 15, 31, 63, 63, 0, 383, 1023]
theorem laws_FnExactMeetTries.tab8 : rtab .any (opsOf Try.f4 8) = laws_FnExactMeetTries.T8 := by kernel_rfl
theorem laws_FnExactMeetTries.bits8 : waitsOk laws_FnExactMeetTries.T8.2 laws_FnExactMeetTries.B8 = true := by kernel_rfl
def laws_FnExactMeetTries.T31 : Bool × List (List Nat × List Nat) := (true, [([], []), ([0], [0]), ([], []), ([2, 1], [2]), ([1, 3, 3], [1, 3]), ([4], [4]), ([5], [5]), ([5], [5]), ([], []), ([8, 6, 4, 0, 1, 2, 3, 4, 5, 6, 8], [6, 8]), ([7, 9, 0, 1, 2, 3, 4, 5, 6, 7, 8, 9], [7])])
def laws_FnExactMeetTries.B31 : List Nat := [0, 1, 0, 7, 15, 31, 63, 63, 0, 383, 1023]
theorem laws_FnExactMeetTries.tab31 : rtab .any (opsOf Try.f4 31) = laws_FnExactMeetTries.T31 := by kernel_rfl
theorem laws_FnExactMeetTries.bits31 : waitsOk laws_FnExactMeetTries.T31.2 laws_FnExactMeetTries.B31 = true := by kernel_rfl
set_option maxHeartbeats 8000000 in
set_option maxRecDepth 100000 in
theorem laws_FnExactMeetTries.calls (k : Nat) (A0_0 : Option Addr) (c0_0 : Nat) (l0_0 : List (S72)) (A1_0 : Option Addr) (c1_0 : Nat) (l1_0 : List (S72)) (r : Bool) (w : World) (hr0_0 : Kd.C k72 w A0_0 l0_0.length l0_0) (hc0_0 : l0_0.length ≤ c0_0) (hr1_0 : Kd.C k72 w A1_0 l1_0.length l1_0) (hc1_0 : l1_0.length ≤ c1_0) (h : laws_FnExactMeetTries.f k l0_0 l1_0 = some true) :
  Calls Try.prog 4 #[.agg #[.slice A0_0 l0_0.length c0_0], .agg #[.slice A1_0 l1_0.length c1_0]] w fun e w' => e = .returned (.bool true) ∧ Below w.heap.size w w' := by
 have hu32 := Try.underlying32
 have hu24 := Try.underlying24
 have HR0_0 := Aside0.mk hr0_0
 have HC0_0 := Aside0.mk hc0_0
 clear hr0_0 hc0_0
 have HR1_0 := Aside0.mk hr1_0
 have HC1_0 := Aside0.mk hc1_0
 clear hr1_0 hc1_0
 have HB := Aside0.mk (Below.refl w.heap.size w)
 have H : ((laws_szTrie.f l0_0 1048576).bind fun t371 => (if t371 < 0 then (some true) else ((laws_szTrie.f l1_0 t371).bind fun t372 => (if t372 < 0 then (some true) else ((laws_toTrie.f k l0_0).bind fun t373 => ((laws_toTrie.f k l1_0).bind fun t376 => ((spec_MeetTries.f k t373 t376).bind fun bt379 => ((laws_toTrie.f k l0_0).bind fun t384 => ((laws_toTrie.f k l1_0).bind fun t388 => ((impl_MeetTries.f t384 t388).bind fun bt392 => ((laws_eqTrie.f k bt392.1 bt379.1).bind fun t397 => (if t397 = true then (laws_FnExactMeetTries.j0 k bt379.2 bt392.2 (bt392.2 != bt379.2) l0_0 l1_0 bt379.1 t384 t388 bt392.1) else (laws_FnExactMeetTries.j0 k bt379.2 bt392.2 true l0_0 l1_0 bt379.1 t384 t388 bt392.1))))))))))))) = some true := h
 clear h
 replace H := Option.bind_eq_some_iff.mp H
 obtain ⟨t371, A30, H⟩ := H
 replace H : (if t371 < 0 then (some true) else ((laws_szTrie.f l1_0 t371).bind fun t372 => (if t372 < 0 then (some true) else ((laws_toTrie.f k l0_0).bind fun t373 => ((laws_toTrie.f k l1_0).bind fun t376 => ((spec_MeetTries.f k t373 t376).bind fun bt379 => ((laws_toTrie.f k l0_0).bind fun t384 => ((laws_toTrie.f k l1_0).bind fun t388 => ((impl_MeetTries.f t384 t388).bind fun bt392 => ((laws_eqTrie.f k bt392.1 bt379.1).bind fun t397 => (if t397 = true then (laws_FnExactMeetTries.j0 k bt379.2 bt392.2 (bt392.2 != bt379.2) l0_0 l1_0 bt379.1 t384 t388 bt392.1) else (laws_FnExactMeetTries.j0 k bt379.2 bt392.2 true l0_0 l1_0 bt379.1 t384 t388 bt392.1)))))))))))) = some true := H
 have A3 := Aside0.mk A30
 clear A30
 by_cases c4 : t371 < 0
 ·rw [if_pos c4] at H
  have c4b0 : decide (t371 < 0) = true := decide_eq_true c4
  clear c4
  (first | (obtain rfl := Option.some.inj H) | (have hH_ := Option.some.inj H; try simp only [hH_]))
  go_enter Try.func4, Try.ntmps4
  go_wp2_with (first | ((with_reducible refine gate_dst (N := 2) rfl ?_); refine box_event ?hg (N := 2) ?hd (cs := #[.slice A0_0 l0_0.length c0_0]) (t := 32) ?hr ?_; (case hd => rfl); (case hg => rfl); (case hr => first | (go_simp; done) | (go_simp; rfl)); intro gb369 hg w5 hbox hb; have n0_ := Aside0.mk (below_step (by repeat (first | (with_reducible first | exact HB.out | apply below_alloc | apply pw_below_drewN | apply below_drew1) | exact HB.out)) hb); have n1_ := Aside0.mk (hbox); have n2_ := Aside0.mk ((by rw [hg]; exact (below_size (by repeat (first | (with_reducible first | exact HB.out | apply below_alloc | apply pw_below_drewN | apply below_drew1) | exact HB.out))) : w.heap.size ≤ gb369)); have n3_ := Aside0.mk ((by rw [hg]; exact (below_size (by repeat (first | (with_reducible first | exact HB.out | apply below_alloc | apply pw_below_drewN | apply below_drew1) | exact HB.out))) : w.heap.size ≤ gb369)); clear HB; have HB := n0_; have BK369 := n1_; have GW369 := n2_; have GE369 := n3_; clear n0_ n1_ n2_ n3_; clear hb hbox hg) | ((with_reducible refine gate_dst (N := 3) rfl ?_); refine box_event ?hg (N := 3) ?hd (cs := #[.slice A1_0 l1_0.length c1_0]) (t := 32) ?hr ?_; (case hd => rfl); (case hg => rfl); (case hr => first | (go_simp; done) | (go_simp; rfl)); intro gb370 hg w6 hbox hb; have n0_ := Aside0.mk (blk_below (g := gb369) (o := .cells #[.slice A0_0 l0_0.length c0_0] 32 (0, 0)) (by (with_reducible repeat (first | refine blk_drewN ?_ _ | refine blk_drew ?_ | refine blk_alloc ?_ _)); exact BK369.out) hb); have n1_ := Aside0.mk (below_step (by repeat (first | (with_reducible first | exact HB.out | apply below_alloc | apply pw_below_drewN | apply below_drew1 | refine below_set ?_ GE369.out) | exact HB.out)) hb); have n2_ := Aside0.mk (hbox); have n3_ := Aside0.mk ((by rw [hg]; exact (below_size (by repeat (first | (with_reducible first | exact HB.out | apply below_alloc | apply pw_below_drewN | apply below_drew1 | refine below_set ?_ GE369.out) | exact HB.out))) : w.heap.size ≤ gb370)); have n4_ := Aside0.mk ((by rw [hg]; exact (below_size (by repeat (first | (with_reducible first | exact HB.out | apply below_alloc | apply pw_below_drewN | apply below_drew1 | refine below_set ?_ GE369.out) | exact HB.out))) : w.heap.size ≤ gb370)); have n5_ := Aside0.mk ((by rw [hg]; exact Nat.ne_of_lt (blk_lt (g := gb369) (o := .cells #[.slice A0_0 l0_0.length c0_0] 32 (0, 0)) (by (with_reducible repeat (first | refine blk_drewN ?_ _ | refine blk_drew ?_ | refine blk_alloc ?_ _)); exact BK369.out)) : gb369 ≠ gb370)); have n6_ := Aside0.mk ((by rw [hg]; exact Nat.ne_of_gt (blk_lt (g := gb369) (o := .cells #[.slice A0_0 l0_0.length c0_0] 32 (0, 0)) (by (with_reducible repeat (first | refine blk_drewN ?_ _ | refine blk_drew ?_ | refine blk_alloc ?_ _)); exact BK369.out)) : gb370 ≠ gb369)); clear BK369; clear HB; have BK369 := n0_; have HB := n1_; have BK370 := n2_; have GW370 := n3_; have GE370 := n4_; have NB369_370 := n5_; have NB370_369 := n6_; clear n0_ n1_ n2_ n3_ n4_ n5_ n6_; clear hb hbox hg; have hnb7 := NB369_370.out; have hnc7 := NB370_369.out; have hcz8_0 : w6.cell? ⟨gb369, 0, none⟩ = some (.slice A0_0 l0_0.length c0_0) := (blk_cell BK369.out 0).trans rfl; have hfz8_0 := blk_frozen BK369.out 0) | ((with_reducible refine gate_callee (f := 12) rfl ?_); refine goesL_ (some 19) rfl rfl Try.func12 (by kernel_rfl) rfl #[.agg #[.slice A0_0 l0_0.length c0_0], .int .i64 1048576] rfl (by (try simp only [List.map_toArray, List.map_cons, List.map_nil]); first | done | rfl | (simp only [List.length_drop, List.length_take]; rfl)) ?_; (with_reducible refine (laws_szTrie.calls _ _ l0_0 1048576 t371 _ ?side1 ?side2 A3.out).mono ?_); (case side1 => repeat (first | exact (Kd.C_below HR0_0.out HB.out) | (with_reducible refine Kd.C_alloc ?_ _) | (with_reducible refine Kd.C_drewN ?_ _) | (with_reducible refine Kd.C_drew ?_))); (case side2 => exact HC0_0.out); rintro e w9 ⟨rfl, hb⟩; refine ⟨_, rfl, ?_⟩; have n0_ := Aside0.mk (blk_below (g := gb369) (o := .cells #[.slice A0_0 l0_0.length c0_0] 32 (0, 0)) (by (with_reducible repeat (first | refine blk_drewN ?_ _ | refine blk_drew ?_ | refine blk_alloc ?_ _)); exact BK369.out) hb); have n1_ := Aside0.mk (blk_below (g := gb370) (o := .cells #[.slice A1_0 l1_0.length c1_0] 32 (0, 0)) (by (with_reducible repeat (first | refine blk_drewN ?_ _ | refine blk_drew ?_ | refine blk_alloc ?_ _)); exact BK370.out) hb); have n2_ := Aside0.mk (below_step (by repeat (first | (with_reducible first | exact HB.out | apply below_alloc | apply pw_below_drewN | apply below_drew1 | refine below_set ?_ GE369.out | refine below_set ?_ GE370.out) | exact HB.out)) hb); clear BK369; clear BK370; clear HB; have BK369 := n0_; have BK370 := n1_; have HB := n2_; clear n0_ n1_ n2_; (try clear hb); (try clear hb2); (try clear hk); (try clear hi)))
  go_ret
  exact ⟨by first | rfl | (simp [errW_none, errW_some] <;> rfl) | (simp [*, errW_none, errW_some] <;> rfl), by repeat (first | (with_reducible first | exact HB.out | apply below_alloc | apply pw_below_drewN | apply below_drew1 | refine below_set ?_ GE369.out | refine below_set ?_ GE370.out) | exact HB.out)⟩
 ·rw [if_neg c4] at H
  have c4b0 : decide (t371 < 0) = false := decide_eq_false c4
  clear c4
  replace H := Option.bind_eq_some_iff.mp H
  obtain ⟨t372, A100, H⟩ := H
  replace H : (if t372 < 0 then (some true) else ((laws_toTrie.f k l0_0).bind fun t373 => ((laws_toTrie.f k l1_0).bind fun t376 => ((spec_MeetTries.f k t373 t376).bind fun bt379 => ((laws_toTrie.f k l0_0).bind fun t384 => ((laws_toTrie.f k l1_0).bind fun t388 => ((impl_MeetTries.f t384 t388).bind fun bt392 => ((laws_eqTrie.f k bt392.1 bt379.1).bind fun t397 => (if t397 = true then (laws_FnExactMeetTries.j0 k bt379.2 bt392.2 (bt392.2 != bt379.2) l0_0 l1_0 bt379.1 t384 t388 bt392.1) else (laws_FnExactMeetTries.j0 k bt379.2 bt392.2 true l0_0 l1_0 bt379.1 t384 t388 bt392.1)))))))))) = some true := H
  have A10 := Aside0.mk A100
  clear A100
  by_cases c11 : t372 < 0
  ·rw [if_pos c11] at H
   have c11b0 : decide (t372 < 0) = true := decide_eq_true c11
   clear c11
   (first | (obtain rfl := Option.some.inj H) | (have hH_ := Option.some.inj H; try simp only [hH_]))
   go_enter Try.func4, Try.ntmps4
   go_wp2_with (first | ((with_reducible refine gate_dst (N := 2) rfl ?_); refine box_event ?hg (N := 2) ?hd (cs := #[.slice A0_0 l0_0.length c0_0]) (t := 32) ?hr ?_; (case hd => rfl); (case hg => rfl); (case hr => first | (go_simp; done) | (go_simp; rfl)); intro gb369 hg w12 hbox hb; have n0_ := Aside0.mk (below_step (by repeat (first | (with_reducible first | exact HB.out | apply below_alloc | apply pw_below_drewN | apply below_drew1) | exact HB.out)) hb); have n1_ := Aside0.mk (hbox); have n2_ := Aside0.mk ((by rw [hg]; exact (below_size (by repeat (first | (with_reducible first | exact HB.out | apply below_alloc | apply pw_below_drewN | apply below_drew1) | exact HB.out))) : w.heap.size ≤ gb369)); have n3_ := Aside0.mk ((by rw [hg]; exact (below_size (by repeat (first | (with_reducible first | exact HB.out | apply below_alloc | apply pw_below_drewN | apply below_drew1) | exact HB.out))) : w.heap.size ≤ gb369)); clear HB; have HB := n0_; have BK369 := n1_; have GW369 := n2_; have GE369 := n3_; clear n0_ n1_ n2_ n3_; clear hb hbox hg) | ((with_reducible refine gate_dst (N := 3) rfl ?_); refine box_event ?hg (N := 3) ?hd (cs := #[.slice A1_0 l1_0.length c1_0]) (t := 32) ?hr ?_; (case hd => rfl); (case hg => rfl); (case hr => first | (go_simp; done) | (go_simp; rfl)); intro gb370 hg w13 hbox hb; have n0_ := Aside0.mk (blk_below (g := gb369) (o := .cells #[.slice A0_0 l0_0.length c0_0] 32 (0, 0)) (by (with_reducible repeat (first | refine blk_drewN ?_ _ | refine blk_drew ?_ | refine blk_alloc ?_ _)); exact BK369.out) hb); have n1_ := Aside0.mk (below_step (by repeat (first | (with_reducible first | exact HB.out | apply below_alloc | apply pw_below_drewN | apply below_drew1 | refine below_set ?_ GE369.out) | exact HB.out)) hb); have n2_ := Aside0.mk (hbox); have n3_ := Aside0.mk ((by rw [hg]; exact (below_size (by repeat (first | (with_reducible first | exact HB.out | apply below_alloc | apply pw_below_drewN | apply below_drew1 | refine below_set ?_ GE369.out) | exact HB.out))) : w.heap.size ≤ gb370)); have n4_ := Aside0.mk ((by rw [hg]; exact (below_size (by repeat (first | (with_reducible first | exact HB.out | apply below_alloc | apply pw_below_drewN | apply below_drew1 | refine below_set ?_ GE369.out) | exact HB.out))) : w.heap.size ≤ gb370)); have n5_ := Aside0.mk ((by rw [hg]; exact Nat.ne_of_lt (blk_lt (g := gb369) (o := .cells #[.slice A0_0 l0_0.length c0_0] 32 (0, 0)) (by (with_reducible repeat (first | refine blk_drewN ?_ _ | refine blk_drew ?_ | refine blk_alloc ?_ _)); exact BK369.out)) : gb369 ≠ gb370)); have n6_ := Aside0.mk ((by rw [hg]; exact Nat.ne_of_gt (blk_lt (g := gb369) (o := .cells #[.slice A0_0 l0_0.length c0_0] 32 (0, 0)) (by (with_reducible repeat (first | refine blk_drewN ?_ _ | refine blk_drew ?_ | refine blk_alloc ?_ _)); exact BK369.out)) : gb370 ≠ gb369)); clear BK369; clear HB; have BK369 := n0_; have HB := n1_; have BK370 := n2_; have GW370 := n3_; have GE370 := n4_; have NB369_370 := n5_; have NB370_369 := n6_; clear n0_ n1_ n2_ n3_ n4_ n5_ n6_; clear hb hbox hg; have hnb14 := NB369_370.out; have hnc14 := NB370_369.out; have hcz15_0 : w13.cell? ⟨gb369, 0, none⟩ = some (.slice A0_0 l0_0.length c0_0) := (blk_cell BK369.out 0).trans rfl; have hfz15_0 := blk_frozen BK369.out 0) | ((with_reducible refine gate_callee (f := 12) rfl ?_); refine goesL_ (some 19) rfl rfl Try.func12 (by kernel_rfl) rfl #[.agg #[.slice A0_0 l0_0.length c0_0], .int .i64 1048576] rfl (by (try simp only [List.map_toArray, List.map_cons, List.map_nil]); first | done | rfl | (simp only [List.length_drop, List.length_take]; rfl)) ?_; (with_reducible refine (laws_szTrie.calls _ _ l0_0 1048576 t371 _ ?side1 ?side2 A3.out).mono ?_); (case side1 => repeat (first | exact (Kd.C_below HR0_0.out HB.out) | (with_reducible refine Kd.C_alloc ?_ _) | (with_reducible refine Kd.C_drewN ?_ _) | (with_reducible refine Kd.C_drew ?_))); (case side2 => exact HC0_0.out); rintro e w16 ⟨rfl, hb⟩; refine ⟨_, rfl, ?_⟩; have n0_ := Aside0.mk (blk_below (g := gb369) (o := .cells #[.slice A0_0 l0_0.length c0_0] 32 (0, 0)) (by (with_reducible repeat (first | refine blk_drewN ?_ _ | refine blk_drew ?_ | refine blk_alloc ?_ _)); exact BK369.out) hb); have n1_ := Aside0.mk (blk_below (g := gb370) (o := .cells #[.slice A1_0 l1_0.length c1_0] 32 (0, 0)) (by (with_reducible repeat (first | refine blk_drewN ?_ _ | refine blk_drew ?_ | refine blk_alloc ?_ _)); exact BK370.out) hb); have n2_ := Aside0.mk (below_step (by repeat (first | (with_reducible first | exact HB.out | apply below_alloc | apply pw_below_drewN | apply below_drew1 | refine below_set ?_ GE369.out | refine below_set ?_ GE370.out) | exact HB.out)) hb); clear BK369; clear BK370; clear HB; have BK369 := n0_; have BK370 := n1_; have HB := n2_; clear n0_ n1_ n2_; (try clear hb); (try clear hb2); (try clear hk); (try clear hi); have hcz17_0 : w16.cell? ⟨gb370, 0, none⟩ = some (.slice A1_0 l1_0.length c1_0) := (blk_cell BK370.out 0).trans rfl; have hfz17_0 := blk_frozen BK370.out 0) | ((with_reducible refine gate_callee (f := 12) rfl ?_); refine goesL_ (some 24) rfl rfl Try.func12 (by kernel_rfl) rfl #[.agg #[.slice A1_0 l1_0.length c1_0], .int .i64 t371] rfl (by (try simp only [List.map_toArray, List.map_cons, List.map_nil]); first | done | rfl | (simp only [List.length_drop, List.length_take]; rfl)) ?_; (with_reducible refine (laws_szTrie.calls _ _ l1_0 t371 t372 _ ?side1 ?side2 A10.out).mono ?_); (case side1 => repeat (first | exact (Kd.C_below HR1_0.out HB.out) | (with_reducible refine Kd.C_alloc ?_ _) | (with_reducible refine Kd.C_drewN ?_ _) | (with_reducible refine Kd.C_drew ?_))); (case side2 => exact HC1_0.out); rintro e w18 ⟨rfl, hb⟩; refine ⟨_, rfl, ?_⟩; have n0_ := Aside0.mk (blk_below (g := gb369) (o := .cells #[.slice A0_0 l0_0.length c0_0] 32 (0, 0)) (by (with_reducible repeat (first | refine blk_drewN ?_ _ | refine blk_drew ?_ | refine blk_alloc ?_ _)); exact BK369.out) hb); have n1_ := Aside0.mk (blk_below (g := gb370) (o := .cells #[.slice A1_0 l1_0.length c1_0] 32 (0, 0)) (by (with_reducible repeat (first | refine blk_drewN ?_ _ | refine blk_drew ?_ | refine blk_alloc ?_ _)); exact BK370.out) hb); have n2_ := Aside0.mk (below_step (by repeat (first | (with_reducible first | exact HB.out | apply below_alloc | apply pw_below_drewN | apply below_drew1 | refine below_set ?_ GE369.out | refine below_set ?_ GE370.out) | exact HB.out)) hb); clear BK369; clear BK370; clear HB; have BK369 := n0_; have BK370 := n1_; have HB := n2_; clear n0_ n1_ n2_; (try clear hb); (try clear hb2); (try clear hk); (try clear hi)))
   go_ret
   exact ⟨by first | rfl | (simp [errW_none, errW_some] <;> rfl) | (simp [*, errW_none, errW_some] <;> rfl), by repeat (first | (with_reducible first | exact HB.out | apply below_alloc | apply pw_below_drewN | apply below_drew1 | refine below_set ?_ GE369.out | refine below_set ?_ GE370.out) | exact HB.out)⟩
  ·rw [if_neg c11] at H
   have c11b0 : decide (t372 < 0) = false := decide_eq_false c11
   clear c11
   replace H := Option.bind_eq_some_iff.mp H
   obtain ⟨t373, A190, H⟩ := H
   replace H : ((laws_toTrie.f k l1_0).bind fun t376 => ((spec_MeetTries.f k t373 t376).bind fun bt379 => ((laws_toTrie.f k l0_0).bind fun t384 => ((laws_toTrie.f k l1_0).bind fun t388 => ((impl_MeetTries.f t384 t388).bind fun bt392 => ((laws_eqTrie.f k bt392.1 bt379.1).bind fun t397 => (if t397 = true then (laws_FnExactMeetTries.j0 k bt379.2 bt392.2 (bt392.2 != bt379.2) l0_0 l1_0 bt379.1 t384 t388 bt392.1) else (laws_FnExactMeetTries.j0 k bt379.2 bt392.2 true l0_0 l1_0 bt379.1 t384 t388 bt392.1)))))))) = some true := H
   have A19 := Aside0.mk A190
   clear A190
   replace H := Option.bind_eq_some_iff.mp H
   obtain ⟨t376, A200, H⟩ := H
   replace H : ((spec_MeetTries.f k t373 t376).bind fun bt379 => ((laws_toTrie.f k l0_0).bind fun t384 => ((laws_toTrie.f k l1_0).bind fun t388 => ((impl_MeetTries.f t384 t388).bind fun bt392 => ((laws_eqTrie.f k bt392.1 bt379.1).bind fun t397 => (if t397 = true then (laws_FnExactMeetTries.j0 k bt379.2 bt392.2 (bt392.2 != bt379.2) l0_0 l1_0 bt379.1 t384 t388 bt392.1) else (laws_FnExactMeetTries.j0 k bt379.2 bt392.2 true l0_0 l1_0 bt379.1 t384 t388 bt392.1))))))) = some true := H
   have A20 := Aside0.mk A200
   clear A200
   replace H := Option.bind_eq_some_iff.mp H
   obtain ⟨⟨t379, t382⟩, A210, H⟩ := H
   replace H : ((laws_toTrie.f k l0_0).bind fun t384 => ((laws_toTrie.f k l1_0).bind fun t388 => ((impl_MeetTries.f t384 t388).bind fun bt392 => ((laws_eqTrie.f k bt392.1 t379).bind fun t397 => (if t397 = true then (laws_FnExactMeetTries.j0 k t382 bt392.2 (bt392.2 != t382) l0_0 l1_0 t379 t384 t388 bt392.1) else (laws_FnExactMeetTries.j0 k t382 bt392.2 true l0_0 l1_0 t379 t384 t388 bt392.1)))))) = some true := H
   have A21 := Aside0.mk A210
   clear A210
   replace H := Option.bind_eq_some_iff.mp H
   obtain ⟨t384, A220, H⟩ := H
   replace H : ((laws_toTrie.f k l1_0).bind fun t388 => ((impl_MeetTries.f t384 t388).bind fun bt392 => ((laws_eqTrie.f k bt392.1 t379).bind fun t397 => (if t397 = true then (laws_FnExactMeetTries.j0 k t382 bt392.2 (bt392.2 != t382) l0_0 l1_0 t379 t384 t388 bt392.1) else (laws_FnExactMeetTries.j0 k t382 bt392.2 true l0_0 l1_0 t379 t384 t388 bt392.1))))) = some true := H
   have A22 := Aside0.mk A220
   clear A220
   replace H := Option.bind_eq_some_iff.mp H
   obtain ⟨t388, A230, H⟩ := H
   replace H : ((impl_MeetTries.f t384 t388).bind fun bt392 => ((laws_eqTrie.f k bt392.1 t379).bind fun t397 => (if t397 = true then (laws_FnExactMeetTries.j0 k t382 bt392.2 (bt392.2 != t382) l0_0 l1_0 t379 t384 t388 bt392.1) else (laws_FnExactMeetTries.j0 k t382 bt392.2 true l0_0 l1_0 t379 t384 t388 bt392.1)))) = some true := H
   have A23 := Aside0.mk A230
   clear A230
   replace H := Option.bind_eq_some_iff.mp H
   obtain ⟨⟨t392, t395⟩, A240, H⟩ := H
   replace H : ((laws_eqTrie.f k t392 t379).bind fun t397 => (if t397 = true then (laws_FnExactMeetTries.j0 k t382 t395 (t395 != t382) l0_0 l1_0 t379 t384 t388 t392) else (laws_FnExactMeetTries.j0 k t382 t395 true l0_0 l1_0 t379 t384 t388 t392))) = some true := H
   have A24 := Aside0.mk A240
   clear A240
   have HC25 := Aside0.mk H
   clear H
   go_enter Try.func4, Try.ntmps4
   try go_wp2_with (first | ((with_reducible refine gate_dst (N := 2) rfl ?_); refine box_event ?hg (N := 2) ?hd (cs := #[.slice A0_0 l0_0.length c0_0]) (t := 32) ?hr ?_; (case hd => rfl); (case hg => rfl); (case hr => first | (go_simp; done) | (go_simp; rfl)); intro gb369 hg w26 hbox hb; have n0_ := Aside0.mk (below_step (by repeat (first | (with_reducible first | exact HB.out | apply below_alloc | apply pw_below_drewN | apply below_drew1) | exact HB.out)) hb); have n1_ := Aside0.mk (hbox); have n2_ := Aside0.mk ((by rw [hg]; exact (below_size (by repeat (first | (with_reducible first | exact HB.out | apply below_alloc | apply pw_below_drewN | apply below_drew1) | exact HB.out))) : w.heap.size ≤ gb369)); have n3_ := Aside0.mk ((by rw [hg]; exact (below_size (by repeat (first | (with_reducible first | exact HB.out | apply below_alloc | apply pw_below_drewN | apply below_drew1) | exact HB.out))) : w.heap.size ≤ gb369)); clear HB; have HB := n0_; have BK369 := n1_; have GW369 := n2_; have GE369 := n3_; clear n0_ n1_ n2_ n3_; clear hb hbox hg) | ((with_reducible refine gate_dst (N := 3) rfl ?_); refine box_event ?hg (N := 3) ?hd (cs := #[.slice A1_0 l1_0.length c1_0]) (t := 32) ?hr ?_; (case hd => rfl); (case hg => rfl); (case hr => first | (go_simp; done) | (go_simp; rfl)); intro gb370 hg w27 hbox hb; have n0_ := Aside0.mk (blk_below (g := gb369) (o := .cells #[.slice A0_0 l0_0.length c0_0] 32 (0, 0)) (by (with_reducible repeat (first | refine blk_drewN ?_ _ | refine blk_drew ?_ | refine blk_alloc ?_ _)); exact BK369.out) hb); have n1_ := Aside0.mk (below_step (by repeat (first | (with_reducible first | exact HB.out | apply below_alloc | apply pw_below_drewN | apply below_drew1 | refine below_set ?_ GE369.out) | exact HB.out)) hb); have n2_ := Aside0.mk (hbox); have n3_ := Aside0.mk ((by rw [hg]; exact (below_size (by repeat (first | (with_reducible first | exact HB.out | apply below_alloc | apply pw_below_drewN | apply below_drew1 | refine below_set ?_ GE369.out) | exact HB.out))) : w.heap.size ≤ gb370)); have n4_ := Aside0.mk ((by rw [hg]; exact (below_size (by repeat (first | (with_reducible first | exact HB.out | apply below_alloc | apply pw_below_drewN | apply below_drew1 | refine below_set ?_ GE369.out) | exact HB.out))) : w.heap.size ≤ gb370)); have n5_ := Aside0.mk ((by rw [hg]; exact Nat.ne_of_lt (blk_lt (g := gb369) (o := .cells #[.slice A0_0 l0_0.length c0_0] 32 (0, 0)) (by (with_reducible repeat (first | refine blk_drewN ?_ _ | refine blk_drew ?_ | refine blk_alloc ?_ _)); exact BK369.out)) : gb369 ≠ gb370)); have n6_ := Aside0.mk ((by rw [hg]; exact Nat.ne_of_gt (blk_lt (g := gb369) (o := .cells #[.slice A0_0 l0_0.length c0_0] 32 (0, 0)) (by (with_reducible repeat (first | refine blk_drewN ?_ _ | refine blk_drew ?_ | refine blk_alloc ?_ _)); exact BK369.out)) : gb370 ≠ gb369)); clear BK369; clear HB; have BK369 := n0_; have HB := n1_; have BK370 := n2_; have GW370 := n3_; have GE370 := n4_; have NB369_370 := n5_; have NB370_369 := n6_; clear n0_ n1_ n2_ n3_ n4_ n5_ n6_; clear hb hbox hg; have hnb28 := NB369_370.out; have hnc28 := NB370_369.out; have hcz29_0 : w27.cell? ⟨gb369, 0, none⟩ = some (.slice A0_0 l0_0.length c0_0) := (blk_cell BK369.out 0).trans rfl; have hfz29_0 := blk_frozen BK369.out 0) | ((with_reducible refine gate_callee (f := 12) rfl ?_); refine goesL_ (some 19) rfl rfl Try.func12 (by kernel_rfl) rfl #[.agg #[.slice A0_0 l0_0.length c0_0], .int .i64 1048576] rfl (by (try simp only [List.map_toArray, List.map_cons, List.map_nil]); first | done | rfl | (simp only [List.length_drop, List.length_take]; rfl)) ?_; (with_reducible refine (laws_szTrie.calls _ _ l0_0 1048576 t371 _ ?side1 ?side2 A3.out).mono ?_); (case side1 => repeat (first | exact (Kd.C_below HR0_0.out HB.out) | (with_reducible refine Kd.C_alloc ?_ _) | (with_reducible refine Kd.C_drewN ?_ _) | (with_reducible refine Kd.C_drew ?_))); (case side2 => exact HC0_0.out); rintro e w30 ⟨rfl, hb⟩; refine ⟨_, rfl, ?_⟩; have n0_ := Aside0.mk (blk_below (g := gb369) (o := .cells #[.slice A0_0 l0_0.length c0_0] 32 (0, 0)) (by (with_reducible repeat (first | refine blk_drewN ?_ _ | refine blk_drew ?_ | refine blk_alloc ?_ _)); exact BK369.out) hb); have n1_ := Aside0.mk (blk_below (g := gb370) (o := .cells #[.slice A1_0 l1_0.length c1_0] 32 (0, 0)) (by (with_reducible repeat (first | refine blk_drewN ?_ _ | refine blk_drew ?_ | refine blk_alloc ?_ _)); exact BK370.out) hb); have n2_ := Aside0.mk (below_step (by repeat (first | (with_reducible first | exact HB.out | apply below_alloc | apply pw_below_drewN | apply below_drew1 | refine below_set ?_ GE369.out | refine below_set ?_ GE370.out) | exact HB.out)) hb); clear BK369; clear BK370; clear HB; have BK369 := n0_; have BK370 := n1_; have HB := n2_; clear n0_ n1_ n2_; (try clear hb); (try clear hb2); (try clear hk); (try clear hi); have hcz31_0 : w30.cell? ⟨gb370, 0, none⟩ = some (.slice A1_0 l1_0.length c1_0) := (blk_cell BK370.out 0).trans rfl; have hfz31_0 := blk_frozen BK370.out 0) | ((with_reducible refine gate_callee (f := 12) rfl ?_); refine goesL_ (some 24) rfl rfl Try.func12 (by kernel_rfl) rfl #[.agg #[.slice A1_0 l1_0.length c1_0], .int .i64 t371] rfl (by (try simp only [List.map_toArray, List.map_cons, List.map_nil]); first | done | rfl | (simp only [List.length_drop, List.length_take]; rfl)) ?_; (with_reducible refine (laws_szTrie.calls _ _ l1_0 t371 t372 _ ?side1 ?side2 A10.out).mono ?_); (case side1 => repeat (first | exact (Kd.C_below HR1_0.out HB.out) | (with_reducible refine Kd.C_alloc ?_ _) | (with_reducible refine Kd.C_drewN ?_ _) | (with_reducible refine Kd.C_drew ?_))); (case side2 => exact HC1_0.out); rintro e w32 ⟨rfl, hb⟩; refine ⟨_, rfl, ?_⟩; have n0_ := Aside0.mk (blk_below (g := gb369) (o := .cells #[.slice A0_0 l0_0.length c0_0] 32 (0, 0)) (by (with_reducible repeat (first | refine blk_drewN ?_ _ | refine blk_drew ?_ | refine blk_alloc ?_ _)); exact BK369.out) hb); have n1_ := Aside0.mk (blk_below (g := gb370) (o := .cells #[.slice A1_0 l1_0.length c1_0] 32 (0, 0)) (by (with_reducible repeat (first | refine blk_drewN ?_ _ | refine blk_drew ?_ | refine blk_alloc ?_ _)); exact BK370.out) hb); have n2_ := Aside0.mk (below_step (by repeat (first | (with_reducible first | exact HB.out | apply below_alloc | apply pw_below_drewN | apply below_drew1 | refine below_set ?_ GE369.out | refine below_set ?_ GE370.out) | exact HB.out)) hb); clear BK369; clear BK370; clear HB; have BK369 := n0_; have BK370 := n1_; have HB := n2_; clear n0_ n1_ n2_; (try clear hb); (try clear hb2); (try clear hk); (try clear hi)))
   have n0_ := Aside0.mk (blk_drew BK369.out)
   have n1_ := Aside0.mk (blk_drew BK370.out)
   have n2_ := Aside0.mk (below_drew1 HB.out)
   revert n0_ n1_ n2_
   clear BK369 BK370 HB
   intro BK369 BK370 HB
   refine start_ (n := 11) (S := fun w' => w'.cell? ⟨gb369, 0, none⟩ = some (.slice A0_0 l0_0.length c0_0) ∧ w'.cell? ⟨gb370, 0, none⟩ = some (.slice A1_0 l1_0.length c1_0)) (ds := []) #[false, false, false, false, false, false, false, false, false, false, false] (by kernel_rfl) rfl rfl ⟨(blk_cell BK369.out 0).trans rfl, (blk_cell BK370.out 0).trans rfl⟩ (fun hHeld => ?_); refine with_tabW laws_FnExactMeetTries.tab8 laws_FnExactMeetTries.bits8 (fun HT_ HW_ => ?_)
   generalize w32.drew = w33 at BK369 BK370 HB hHeld ⊢
   refine take_ (i := 0) (N := some 28) (v := ?_) (a' := ?_) #[true, false, false, false, false, false, false, false, false, false, false] rfl rfl (take_ofW HT_.out HW_.out (by kernel_rfl)) (fun _ _ _ h => h) (Or.inl ⟨by rfl, ?_⟩) hHeld ?_ ?_
   rotate_left
   ·rintro w' ⟨s0, s1⟩
    go_simp
    with_reducible rfl
   rotate_left
   ·simp only [Act.put, List.setIfInBounds_toArray, List.set_cons_zero, List.set_cons_succ, i64_w, i32_w]
    rfl
   refine take_ (i := 2) (N := some 30) (v := ?_) (a' := ?_) #[true, false, true, false, false, false, false, false, false, false, false] rfl rfl (take_ofW HT_.out HW_.out (by kernel_rfl)) (fun _ _ _ h => h) (Or.inl ⟨by rfl, ?_⟩) hHeld ?_ ?_
   rotate_left
   ·rintro w' ⟨s0, s1⟩
    go_simp
    with_reducible rfl
   rotate_left
   ·simp only [Act.put, List.setIfInBounds_toArray, List.set_cons_zero, List.set_cons_succ, i64_w, i32_w]
    rfl
   refine join_ (σ := Value × Value × Value × Nat) 2 #[true, true, true, true, true, true, true, true, true, false, false] (fun s_ => [(29, .agg #[s_.1]), (31, .agg #[s_.2.1]), (32, .tuple #[.agg #[s_.2.2.1], .bool t382]), (6, .pointer (some ⟨s_.2.2.2, 0, none⟩)), (27, .tuple #[.agg #[s_.2.2.1], .bool t382]), (33, .agg #[s_.2.2.1]), (34, .bool t382)]) (fun s_ w' => (w'.cell? ⟨gb369, 0, none⟩ = some (.slice A0_0 l0_0.length c0_0) ∧ w'.cell? ⟨gb370, 0, none⟩ = some (.slice A1_0 l1_0.length c1_0)) ∧ (Kd.R k67 67 w' w.heap.size (fun k_ => some k_ ≠ (s_.2.1 : Value).ownBlock ∧ some k_ ≠ (s_.2.2.1 : Value).ownBlock) s_.1 t373) ∧ (Kd.R k67 67 w' w.heap.size (fun k_ => some k_ ≠ (s_.1 : Value).ownBlock ∧ some k_ ≠ (s_.2.2.1 : Value).ownBlock) s_.2.1 t376) ∧ (Kd.R k67 67 w' w.heap.size (fun k_ => some k_ ≠ (s_.1 : Value).ownBlock ∧ some k_ ≠ (s_.2.1 : Value).ownBlock) s_.2.2.1 t379) ∧ (w'.heap[gb369]? = some (.cells #[.slice A0_0 l0_0.length c0_0] 32 (0, 0))) ∧ (w'.heap[gb370]? = some (.cells #[.slice A1_0 l1_0.length c1_0] 32 (0, 0))) ∧ (w'.heap[s_.2.2.2]? = some (.cells #[.slice none 0 0] 24 (0, 0))) ∧ (w.heap.size ≤ s_.2.2.2) ∧ (w.heap.size ≤ s_.2.2.2) ∧ (gb369 ≠ s_.2.2.2) ∧ (s_.2.2.2 ≠ gb369) ∧ (gb370 ≠ s_.2.2.2) ∧ (s_.2.2.2 ≠ gb370) ∧ (Below w.heap.size w w')) ?_ ?_
   rotate_left
   ·intro hCont
    refine two_ (i := 1) (j := 8) (Ni := some 29) (Nj := some 6) #[true, true, true, false, false, false, false, false, false, false, false] #[true, false, true, false, false, false, false, false, true, false, false] rfl rfl rfl rfl (two_of HT_.out (by kernel_rfl)) (by decide) (by decide) (fun K hK => ?_) (fun K hK => ?_)
    ·skip
     refine goes_ Try.func14 (by kernel_rfl) rfl #[.agg #[.slice A0_0 l0_0.length c0_0]] (by rfl) rfl rfl (by (try simp only [List.map_toArray, List.map_cons, List.map_nil]); first | done | rfl | (simp only [List.length_drop, List.length_take]; rfl)) ?_
     with_reducible refine (laws_toTrie.calls k _ _ l0_0 t373 _ ?side1 ?side2 A19.out).mono ?_
     (case side1 => exact (Kd.C_below HR0_0.out HB.out))
     (case side2 => exact HC0_0.out)
     rintro e w34 ⟨v374, rfl, ho0, hb⟩
     refine ⟨_, rfl, ?_⟩
     have n0_ := Aside0.mk (Kd.R_lower ho0 (below_size HB.out))
     have n1_ := Aside0.mk (blk_below BK369.out hb)
     have n2_ := Aside0.mk (blk_below BK370.out hb)
     have n3_ := Aside0.mk (below_step HB.out hb)
     revert n0_ n1_ n2_ n3_
     clear BK369 BK370 HB
     intro HO375 BK369 BK370 HB
     (try clear hb)
     (try clear hb2)
     (try clear hk)
     (try clear hi)
     (try clear ho0)
     refine hK.out _ _ ⟨(blk_cell BK369.out 0).trans rfl, (blk_cell BK370.out 0).trans rfl⟩ (fun hHeld => ?_)
     clear hK K
     refine norm_ (a' := ?_) ?_ ?_
     rotate_left
     ·show Act.put _ (some 29) _ = _
      simp only [Act.put, List.setIfInBounds_toArray, List.set_cons_zero, List.set_cons_succ, i64_w, i32_w]
      rfl
     refine two_ (i := 3) (j := 8) (Ni := some 31) (Nj := some 6) #[true, true, true, true, false, false, false, false, false, false, false] #[true, true, true, false, false, false, false, false, true, false, false] rfl rfl rfl rfl (two_of HT_.out (by kernel_rfl)) (by decide) (by decide) (fun K hK => ?_) (fun K hK => ?_)
     ·skip
      refine goes_ Try.func14 (by kernel_rfl) rfl #[.agg #[.slice A1_0 l1_0.length c1_0]] (by rfl) rfl rfl (by (try simp only [List.map_toArray, List.map_cons, List.map_nil]); first | done | rfl | (simp only [List.length_drop, List.length_take]; rfl)) ?_
      with_reducible refine (laws_toTrie.calls k _ _ l1_0 t376 _ ?side1 ?side2 A20.out).mono ?_
      (case side1 => exact (Kd.C_below HR1_0.out HB.out))
      (case side2 => exact HC1_0.out)
      rintro e w35 ⟨v377, rfl, ho0, hb⟩
      refine ⟨_, rfl, ?_⟩
      have n0_ := Aside0.mk (Kd.R_elder' HO375.out (Kd.R_base ho0) hb)
      have n1_ := Aside0.mk (Kd.R_lower (Kd.R_new' ho0 (Kd.R_lt HO375.out)) (below_size HB.out))
      have n2_ := Aside0.mk (blk_below BK369.out hb)
      have n3_ := Aside0.mk (blk_below BK370.out hb)
      have n4_ := Aside0.mk (below_step HB.out hb)
      revert n0_ n1_ n2_ n3_ n4_
      clear HO375 BK369 BK370 HB
      intro HO375 HO378 BK369 BK370 HB
      (try clear hb)
      (try clear hb2)
      (try clear hk)
      (try clear hi)
      (try clear ho0)
      obtain ⟨Ao36, co36, eo36⟩ := Kd.R_slice HO375.out
      (first | subst eo36 | (injection eo36 with f1_ f2_ f3_; have f4_ := f1_.symm; have f5_ := f3_.symm; clear f1_ f2_ f3_; subst f4_; subst f5_))
      obtain ⟨Ao37, co37, eo37⟩ := Kd.R_slice HO378.out
      (first | subst eo37 | (injection eo37 with f1_ f2_ f3_; have f4_ := f1_.symm; have f5_ := f3_.symm; clear f1_ f2_ f3_; subst f4_; subst f5_))
      refine hK.out _ _ ⟨(blk_cell BK369.out 0).trans rfl, (blk_cell BK370.out 0).trans rfl⟩ (fun hHeld => ?_)
      clear hK K
      refine norm_ (a' := ?_) ?_ ?_
      rotate_left
      ·show Act.put _ (some 31) _ = _
       simp only [Act.put, List.setIfInBounds_toArray, List.set_cons_zero, List.set_cons_succ, i64_w, i32_w]
       rfl
      refine two_ (i := 4) (j := 8) (Ni := some 32) (Nj := some 6) #[true, true, true, true, true, false, false, false, false, false, false] #[true, true, true, true, false, false, false, false, true, false, false] rfl rfl rfl rfl (two_of HT_.out (by kernel_rfl)) (by decide) (by decide) (fun K hK => ?_) (fun K hK => ?_)
      ·skip
       refine goes_ Try.func13 (by kernel_rfl) rfl #[.agg #[.slice Ao36 t373.length co36], .agg #[.slice Ao37 t376.length co37]] (by rfl) rfl rfl (by (try simp only [List.map_toArray, List.map_cons, List.map_nil]); first | done | rfl | (simp only [List.length_drop, List.length_take]; rfl)) ?_
       with_reducible refine (spec_MeetTries.calls k _ _ t373 _ _ t376 t379 t382 _ ?side1 ?side2 ?side3 ?side4 A21.out).mono ?_
       (case side1 => exact (Kd.R_reads' HO375.out).2.2)
       (case side2 => exact (Kd.R_reads' HO375.out).2.1)
       (case side3 => exact (Kd.R_reads' HO378.out).2.2)
       (case side4 => exact (Kd.R_reads' HO378.out).2.1)
       rintro e w38 ⟨v380, rfl, ho0, hb⟩
       refine ⟨_, rfl, ?_⟩
       have n0_ := Aside0.mk (Kd.R_elder' HO375.out (Kd.R_base ho0) hb)
       have n1_ := Aside0.mk (Kd.R_elder' HO378.out (Kd.R_base ho0) hb)
       have n2_ := Aside0.mk (Kd.R_lower (Kd.R_new' (Kd.R_new' ho0 (Kd.R_lt HO375.out)) (Kd.R_lt HO378.out)) (below_size HB.out))
       have n3_ := Aside0.mk (blk_below BK369.out hb)
       have n4_ := Aside0.mk (blk_below BK370.out hb)
       have n5_ := Aside0.mk (below_step HB.out hb)
       revert n0_ n1_ n2_ n3_ n4_ n5_
       clear HO375 HO378 BK369 BK370 HB
       intro HO375 HO378 HO381 BK369 BK370 HB
       (try clear hb)
       (try clear hb2)
       (try clear hk)
       (try clear hi)
       (try clear ho0)
       refine hK.out _ _ ⟨(blk_cell BK369.out 0).trans rfl, (blk_cell BK370.out 0).trans rfl⟩ (fun hHeld => ?_)
       clear hK K
       refine norm_ (a' := ?_) ?_ ?_
       rotate_left
       ·show Act.put _ (some 32) _ = _
        simp only [Act.put, List.setIfInBounds_toArray, List.set_cons_zero, List.set_cons_succ, i64_w, i32_w]
        rfl
       refine pure_ (i := 5) (N := some 27) (v := ?_) (a' := ?_) #[true, true, true, true, true, true, false, false, false, false, false] rfl rfl (any_of HT_.out (by kernel_rfl)) (fun _ _ _ h => h) (Or.inl ⟨by rfl, ?_⟩) ?_ ?_
       rotate_left
       ·intro w'
        go_simp
        with_reducible rfl
       rotate_left
       ·simp only [Act.put, List.setIfInBounds_toArray, List.set_cons_zero, List.set_cons_succ, i64_w, i32_w]
        rfl
       refine pure_ (i := 6) (N := some 33) (v := ?_) (a' := ?_) #[true, true, true, true, true, true, true, false, false, false, false] rfl rfl (any_of HT_.out (by kernel_rfl)) (fun _ _ _ h => h) (Or.inl ⟨by rfl, ?_⟩) ?_ ?_
       rotate_left
       ·intro w'
        go_simp
        with_reducible rfl
       rotate_left
       ·simp only [Act.put, List.setIfInBounds_toArray, List.set_cons_zero, List.set_cons_succ, i64_w, i32_w]
        rfl
       refine pure_ (i := 7) (N := some 34) (v := ?_) (a' := ?_) #[true, true, true, true, true, true, true, true, false, false, false] rfl rfl (any_of HT_.out (by kernel_rfl)) (fun _ _ _ h => h) (Or.inl ⟨by rfl, ?_⟩) ?_ ?_
       rotate_left
       ·intro w'
        go_simp
        with_reducible rfl
       rotate_left
       ·simp only [Act.put, List.setIfInBounds_toArray, List.set_cons_zero, List.set_cons_succ, i64_w, i32_w]
        rfl
       refine one_ (i := 8) (N := some 6) #[true, true, true, true, true, true, true, true, true, false, false] rfl rfl (one_of HT_.out (by kernel_rfl)) (by decide) (fun K hK => ?_)
       refine box_step ?hg (N := 6) ?hd (cs := #[.slice none 0 0]) (t := 24) ?hr ?_; (case hd => rfl); (case hg => rfl); (case hr => first | (go_simp; done) | (go_simp; rfl))
       intro gb383 hg w39 hbox hb
       have n0_ := Aside0.mk (Kd.R_below HO375.out hb)
       have n1_ := Aside0.mk (Kd.R_below HO378.out hb)
       have n2_ := Aside0.mk (Kd.R_below HO381.out hb)
       have n3_ := Aside0.mk (blk_below BK369.out hb)
       have n4_ := Aside0.mk (blk_below BK370.out hb)
       have n5_ := Aside0.mk (below_step HB.out hb)
       have n6_ := Aside0.mk (hbox)
       have n7_ := Aside0.mk ((by rw [hg]; exact (below_size HB.out) : w.heap.size ≤ gb383))
       have n8_ := Aside0.mk ((by rw [hg]; exact (below_size HB.out) : w.heap.size ≤ gb383))
       have n9_ := Aside0.mk ((by rw [hg]; exact Nat.ne_of_lt (blk_lt BK369.out) : gb369 ≠ gb383))
       have n10_ := Aside0.mk ((by rw [hg]; exact Nat.ne_of_gt (blk_lt BK369.out) : gb383 ≠ gb369))
       have n11_ := Aside0.mk ((by rw [hg]; exact Nat.ne_of_lt (blk_lt BK370.out) : gb370 ≠ gb383))
       have n12_ := Aside0.mk ((by rw [hg]; exact Nat.ne_of_gt (blk_lt BK370.out) : gb383 ≠ gb370))
       revert n0_ n1_ n2_ n3_ n4_ n5_ n6_ n7_ n8_ n9_ n10_ n11_ n12_
       clear HO375 HO378 HO381 BK369 BK370 HB
       intro HO375 HO378 HO381 BK369 BK370 HB BK383 GW383 GE383 NB369_383 NB383_369 NB370_383 NB383_370
       clear hb hbox hg
       refine hK.out _ _ ⟨(blk_cell BK369.out 0).trans rfl, (blk_cell BK370.out 0).trans rfl⟩ (fun hHeld => ?_)
       clear hK K
       refine norm_ (a' := ?_) ?_ ?_
       rotate_left
       ·show Act.put _ (some 6) _ = _
        simp only [Act.put, List.setIfInBounds_toArray, List.set_cons_zero, List.set_cons_succ, i64_w, i32_w]
        rfl
       exact norm_ (by simp only [putAll, Act.put, List.setIfInBounds_toArray, List.set_cons_zero, List.set_cons_succ]) (hCont (.slice Ao36 t373.length co36, .slice Ao37 t376.length co37, v380, gb383) _ ⟨hHeld, (Kd.R_mono HO375.out (fun _ hk => ⟨hk.1.2, hk.2⟩)), (Kd.R_mono HO378.out (fun _ hk => ⟨hk.1.2, hk.2⟩)), (Kd.R_mono HO381.out (fun _ hk => ⟨hk.1.2, hk.2⟩)), BK369.out, BK370.out, BK383.out, GW383.out, GE383.out, NB369_383.out, NB383_369.out, NB370_383.out, NB383_370.out, HB.out⟩)
      ·skip
       refine box_step ?hg (N := 6) ?hd (cs := #[.slice none 0 0]) (t := 24) ?hr ?_; (case hd => rfl); (case hg => rfl); (case hr => first | (go_simp; done) | (go_simp; rfl))
       intro gb383 hg w36 hbox hb
       have n0_ := Aside0.mk (Kd.R_below HO375.out hb)
       have n1_ := Aside0.mk (Kd.R_below HO378.out hb)
       have n2_ := Aside0.mk (blk_below BK369.out hb)
       have n3_ := Aside0.mk (blk_below BK370.out hb)
       have n4_ := Aside0.mk (below_step HB.out hb)
       have n5_ := Aside0.mk (hbox)
       have n6_ := Aside0.mk ((by rw [hg]; exact (below_size HB.out) : w.heap.size ≤ gb383))
       have n7_ := Aside0.mk ((by rw [hg]; exact (below_size HB.out) : w.heap.size ≤ gb383))
       have n8_ := Aside0.mk ((by rw [hg]; exact Nat.ne_of_lt (blk_lt BK369.out) : gb369 ≠ gb383))
       have n9_ := Aside0.mk ((by rw [hg]; exact Nat.ne_of_gt (blk_lt BK369.out) : gb383 ≠ gb369))
       have n10_ := Aside0.mk ((by rw [hg]; exact Nat.ne_of_lt (blk_lt BK370.out) : gb370 ≠ gb383))
       have n11_ := Aside0.mk ((by rw [hg]; exact Nat.ne_of_gt (blk_lt BK370.out) : gb383 ≠ gb370))
       revert n0_ n1_ n2_ n3_ n4_ n5_ n6_ n7_ n8_ n9_ n10_ n11_
       clear HO375 HO378 BK369 BK370 HB
       intro HO375 HO378 BK369 BK370 HB BK383 GW383 GE383 NB369_383 NB383_369 NB370_383 NB383_370
       clear hb hbox hg
       obtain ⟨Ao37, co37, eo37⟩ := Kd.R_slice HO375.out
       (first | subst eo37 | (injection eo37 with f1_ f2_ f3_; have f4_ := f1_.symm; have f5_ := f3_.symm; clear f1_ f2_ f3_; subst f4_; subst f5_))
       obtain ⟨Ao38, co38, eo38⟩ := Kd.R_slice HO378.out
       (first | subst eo38 | (injection eo38 with f1_ f2_ f3_; have f4_ := f1_.symm; have f5_ := f3_.symm; clear f1_ f2_ f3_; subst f4_; subst f5_))
       refine hK.out _ _ ⟨(blk_cell BK369.out 0).trans rfl, (blk_cell BK370.out 0).trans rfl⟩ (fun hHeld => ?_)
       clear hK K
       refine norm_ (a' := ?_) ?_ ?_
       rotate_left
       ·show Act.put _ (some 6) _ = _
        simp only [Act.put, List.setIfInBounds_toArray, List.set_cons_zero, List.set_cons_succ, i64_w, i32_w]
        rfl
       refine one_ (i := 4) (N := some 32) #[true, true, true, true, true, false, false, false, true, false, false] rfl rfl (one_of HT_.out (by kernel_rfl)) (by decide) (fun K hK => ?_)
       refine goes_ Try.func13 (by kernel_rfl) rfl #[.agg #[.slice Ao37 t373.length co37], .agg #[.slice Ao38 t376.length co38]] (by rfl) rfl rfl (by (try simp only [List.map_toArray, List.map_cons, List.map_nil]); first | done | rfl | (simp only [List.length_drop, List.length_take]; rfl)) ?_
       with_reducible refine (spec_MeetTries.calls k _ _ t373 _ _ t376 t379 t382 _ ?side1 ?side2 ?side3 ?side4 A21.out).mono ?_
       (case side1 => exact (Kd.R_reads' HO375.out).2.2)
       (case side2 => exact (Kd.R_reads' HO375.out).2.1)
       (case side3 => exact (Kd.R_reads' HO378.out).2.2)
       (case side4 => exact (Kd.R_reads' HO378.out).2.1)
       rintro e w39 ⟨v380, rfl, ho0, hb⟩
       refine ⟨_, rfl, ?_⟩
       have n0_ := Aside0.mk (Kd.R_elder' HO375.out (Kd.R_base ho0) hb)
       have n1_ := Aside0.mk (Kd.R_elder' HO378.out (Kd.R_base ho0) hb)
       have n2_ := Aside0.mk (Kd.R_lower (Kd.R_new' (Kd.R_new' ho0 (Kd.R_lt HO375.out)) (Kd.R_lt HO378.out)) (below_size HB.out))
       have n3_ := Aside0.mk (blk_below BK369.out hb)
       have n4_ := Aside0.mk (blk_below BK370.out hb)
       have n5_ := Aside0.mk (blk_below BK383.out hb)
       have n6_ := Aside0.mk (below_step HB.out hb)
       revert n0_ n1_ n2_ n3_ n4_ n5_ n6_
       clear HO375 HO378 BK369 BK370 BK383 HB
       intro HO375 HO378 HO381 BK369 BK370 BK383 HB
       (try clear hb)
       (try clear hb2)
       (try clear hk)
       (try clear hi)
       (try clear ho0)
       refine hK.out _ _ ⟨(blk_cell BK369.out 0).trans rfl, (blk_cell BK370.out 0).trans rfl⟩ (fun hHeld => ?_)
       clear hK K
       refine norm_ (a' := ?_) ?_ ?_
       rotate_left
       ·show Act.put _ (some 32) _ = _
        simp only [Act.put, List.setIfInBounds_toArray, List.set_cons_zero, List.set_cons_succ, i64_w, i32_w]
        rfl
       refine pure_ (i := 5) (N := some 27) (v := ?_) (a' := ?_) #[true, true, true, true, true, true, false, false, true, false, false] rfl rfl (any_of HT_.out (by kernel_rfl)) (fun _ _ _ h => h) (Or.inl ⟨by rfl, ?_⟩) ?_ ?_
       rotate_left
       ·intro w'
        go_simp
        with_reducible rfl
       rotate_left
       ·simp only [Act.put, List.setIfInBounds_toArray, List.set_cons_zero, List.set_cons_succ, i64_w, i32_w]
        rfl
       refine pure_ (i := 6) (N := some 33) (v := ?_) (a' := ?_) #[true, true, true, true, true, true, true, false, true, false, false] rfl rfl (any_of HT_.out (by kernel_rfl)) (fun _ _ _ h => h) (Or.inl ⟨by rfl, ?_⟩) ?_ ?_
       rotate_left
       ·intro w'
        go_simp
        with_reducible rfl
       rotate_left
       ·simp only [Act.put, List.setIfInBounds_toArray, List.set_cons_zero, List.set_cons_succ, i64_w, i32_w]
        rfl
       refine pure_ (i := 7) (N := some 34) (v := ?_) (a' := ?_) #[true, true, true, true, true, true, true, true, true, false, false] rfl rfl (any_of HT_.out (by kernel_rfl)) (fun _ _ _ h => h) (Or.inl ⟨by rfl, ?_⟩) ?_ ?_
       rotate_left
       ·intro w'
        go_simp
        with_reducible rfl
       rotate_left
       ·simp only [Act.put, List.setIfInBounds_toArray, List.set_cons_zero, List.set_cons_succ, i64_w, i32_w]
        rfl
       exact norm_ (by simp only [putAll, Act.put, List.setIfInBounds_toArray, List.set_cons_zero, List.set_cons_succ]) (hCont (.slice Ao37 t373.length co37, .slice Ao38 t376.length co38, v380, gb383) _ ⟨hHeld, (Kd.R_mono HO375.out (fun _ hk => ⟨hk.1.2, hk.2⟩)), (Kd.R_mono HO378.out (fun _ hk => ⟨hk.1.2, hk.2⟩)), (Kd.R_mono HO381.out (fun _ hk => ⟨hk.1.2, hk.2⟩)), BK369.out, BK370.out, BK383.out, GW383.out, GE383.out, NB369_383.out, NB383_369.out, NB370_383.out, NB383_370.out, HB.out⟩)
     ·skip
      refine box_step ?hg (N := 6) ?hd (cs := #[.slice none 0 0]) (t := 24) ?hr ?_; (case hd => rfl); (case hg => rfl); (case hr => first | (go_simp; done) | (go_simp; rfl))
      intro gb383 hg w35 hbox hb
      have n0_ := Aside0.mk (Kd.R_below HO375.out hb)
      have n1_ := Aside0.mk (blk_below BK369.out hb)
      have n2_ := Aside0.mk (blk_below BK370.out hb)
      have n3_ := Aside0.mk (below_step HB.out hb)
      have n4_ := Aside0.mk (hbox)
      have n5_ := Aside0.mk ((by rw [hg]; exact (below_size HB.out) : w.heap.size ≤ gb383))
      have n6_ := Aside0.mk ((by rw [hg]; exact (below_size HB.out) : w.heap.size ≤ gb383))
      have n7_ := Aside0.mk ((by rw [hg]; exact Nat.ne_of_lt (blk_lt BK369.out) : gb369 ≠ gb383))
      have n8_ := Aside0.mk ((by rw [hg]; exact Nat.ne_of_gt (blk_lt BK369.out) : gb383 ≠ gb369))
      have n9_ := Aside0.mk ((by rw [hg]; exact Nat.ne_of_lt (blk_lt BK370.out) : gb370 ≠ gb383))
      have n10_ := Aside0.mk ((by rw [hg]; exact Nat.ne_of_gt (blk_lt BK370.out) : gb383 ≠ gb370))
      revert n0_ n1_ n2_ n3_ n4_ n5_ n6_ n7_ n8_ n9_ n10_
      clear HO375 BK369 BK370 HB
      intro HO375 BK369 BK370 HB BK383 GW383 GE383 NB369_383 NB383_369 NB370_383 NB383_370
      clear hb hbox hg
      refine hK.out _ _ ⟨(blk_cell BK369.out 0).trans rfl, (blk_cell BK370.out 0).trans rfl⟩ (fun hHeld => ?_)
      clear hK K
      refine norm_ (a' := ?_) ?_ ?_
      rotate_left
      ·show Act.put _ (some 6) _ = _
       simp only [Act.put, List.setIfInBounds_toArray, List.set_cons_zero, List.set_cons_succ, i64_w, i32_w]
       rfl
      refine one_ (i := 3) (N := some 31) #[true, true, true, true, false, false, false, false, true, false, false] rfl rfl (one_of HT_.out (by kernel_rfl)) (by decide) (fun K hK => ?_)
      refine goes_ Try.func14 (by kernel_rfl) rfl #[.agg #[.slice A1_0 l1_0.length c1_0]] (by rfl) rfl rfl (by (try simp only [List.map_toArray, List.map_cons, List.map_nil]); first | done | rfl | (simp only [List.length_drop, List.length_take]; rfl)) ?_
      with_reducible refine (laws_toTrie.calls k _ _ l1_0 t376 _ ?side1 ?side2 A20.out).mono ?_
      (case side1 => exact (Kd.C_below HR1_0.out HB.out))
      (case side2 => exact HC1_0.out)
      rintro e w36 ⟨v377, rfl, ho0, hb⟩
      refine ⟨_, rfl, ?_⟩
      have n0_ := Aside0.mk (Kd.R_elder' HO375.out (Kd.R_base ho0) hb)
      have n1_ := Aside0.mk (Kd.R_lower (Kd.R_new' ho0 (Kd.R_lt HO375.out)) (below_size HB.out))
      have n2_ := Aside0.mk (blk_below BK369.out hb)
      have n3_ := Aside0.mk (blk_below BK370.out hb)
      have n4_ := Aside0.mk (blk_below BK383.out hb)
      have n5_ := Aside0.mk (below_step HB.out hb)
      revert n0_ n1_ n2_ n3_ n4_ n5_
      clear HO375 BK369 BK370 BK383 HB
      intro HO375 HO378 BK369 BK370 BK383 HB
      (try clear hb)
      (try clear hb2)
      (try clear hk)
      (try clear hi)
      (try clear ho0)
      obtain ⟨Ao37, co37, eo37⟩ := Kd.R_slice HO375.out
      (first | subst eo37 | (injection eo37 with f1_ f2_ f3_; have f4_ := f1_.symm; have f5_ := f3_.symm; clear f1_ f2_ f3_; subst f4_; subst f5_))
      obtain ⟨Ao38, co38, eo38⟩ := Kd.R_slice HO378.out
      (first | subst eo38 | (injection eo38 with f1_ f2_ f3_; have f4_ := f1_.symm; have f5_ := f3_.symm; clear f1_ f2_ f3_; subst f4_; subst f5_))
      refine hK.out _ _ ⟨(blk_cell BK369.out 0).trans rfl, (blk_cell BK370.out 0).trans rfl⟩ (fun hHeld => ?_)
      clear hK K
      refine norm_ (a' := ?_) ?_ ?_
      rotate_left
      ·show Act.put _ (some 31) _ = _
       simp only [Act.put, List.setIfInBounds_toArray, List.set_cons_zero, List.set_cons_succ, i64_w, i32_w]
       rfl
      refine one_ (i := 4) (N := some 32) #[true, true, true, true, true, false, false, false, true, false, false] rfl rfl (one_of HT_.out (by kernel_rfl)) (by decide) (fun K hK => ?_)
      refine goes_ Try.func13 (by kernel_rfl) rfl #[.agg #[.slice Ao37 t373.length co37], .agg #[.slice Ao38 t376.length co38]] (by rfl) rfl rfl (by (try simp only [List.map_toArray, List.map_cons, List.map_nil]); first | done | rfl | (simp only [List.length_drop, List.length_take]; rfl)) ?_
      with_reducible refine (spec_MeetTries.calls k _ _ t373 _ _ t376 t379 t382 _ ?side1 ?side2 ?side3 ?side4 A21.out).mono ?_
      (case side1 => exact (Kd.R_reads' HO375.out).2.2)
      (case side2 => exact (Kd.R_reads' HO375.out).2.1)
      (case side3 => exact (Kd.R_reads' HO378.out).2.2)
      (case side4 => exact (Kd.R_reads' HO378.out).2.1)
      rintro e w39 ⟨v380, rfl, ho0, hb⟩
      refine ⟨_, rfl, ?_⟩
      have n0_ := Aside0.mk (Kd.R_elder' HO375.out (Kd.R_base ho0) hb)
      have n1_ := Aside0.mk (Kd.R_elder' HO378.out (Kd.R_base ho0) hb)
      have n2_ := Aside0.mk (Kd.R_lower (Kd.R_new' (Kd.R_new' ho0 (Kd.R_lt HO375.out)) (Kd.R_lt HO378.out)) (below_size HB.out))
      have n3_ := Aside0.mk (blk_below BK369.out hb)
      have n4_ := Aside0.mk (blk_below BK370.out hb)
      have n5_ := Aside0.mk (blk_below BK383.out hb)
      have n6_ := Aside0.mk (below_step HB.out hb)
      revert n0_ n1_ n2_ n3_ n4_ n5_ n6_
      clear HO375 HO378 BK369 BK370 BK383 HB
      intro HO375 HO378 HO381 BK369 BK370 BK383 HB
      (try clear hb)
      (try clear hb2)
      (try clear hk)
      (try clear hi)
      (try clear ho0)
      refine hK.out _ _ ⟨(blk_cell BK369.out 0).trans rfl, (blk_cell BK370.out 0).trans rfl⟩ (fun hHeld => ?_)
      clear hK K
      refine norm_ (a' := ?_) ?_ ?_
      rotate_left
      ·show Act.put _ (some 32) _ = _
       simp only [Act.put, List.setIfInBounds_toArray, List.set_cons_zero, List.set_cons_succ, i64_w, i32_w]
       rfl
      refine pure_ (i := 5) (N := some 27) (v := ?_) (a' := ?_) #[true, true, true, true, true, true, false, false, true, false, false] rfl rfl (any_of HT_.out (by kernel_rfl)) (fun _ _ _ h => h) (Or.inl ⟨by rfl, ?_⟩) ?_ ?_
      rotate_left
      ·intro w'
       go_simp
       with_reducible rfl
      rotate_left
      ·simp only [Act.put, List.setIfInBounds_toArray, List.set_cons_zero, List.set_cons_succ, i64_w, i32_w]
       rfl
      refine pure_ (i := 6) (N := some 33) (v := ?_) (a' := ?_) #[true, true, true, true, true, true, true, false, true, false, false] rfl rfl (any_of HT_.out (by kernel_rfl)) (fun _ _ _ h => h) (Or.inl ⟨by rfl, ?_⟩) ?_ ?_
      rotate_left
      ·intro w'
       go_simp
       with_reducible rfl
      rotate_left
      ·simp only [Act.put, List.setIfInBounds_toArray, List.set_cons_zero, List.set_cons_succ, i64_w, i32_w]
       rfl
      refine pure_ (i := 7) (N := some 34) (v := ?_) (a' := ?_) #[true, true, true, true, true, true, true, true, true, false, false] rfl rfl (any_of HT_.out (by kernel_rfl)) (fun _ _ _ h => h) (Or.inl ⟨by rfl, ?_⟩) ?_ ?_
      rotate_left
      ·intro w'
       go_simp
       with_reducible rfl
      rotate_left
      ·simp only [Act.put, List.setIfInBounds_toArray, List.set_cons_zero, List.set_cons_succ, i64_w, i32_w]
       rfl
      exact norm_ (by simp only [putAll, Act.put, List.setIfInBounds_toArray, List.set_cons_zero, List.set_cons_succ]) (hCont (.slice Ao37 t373.length co37, .slice Ao38 t376.length co38, v380, gb383) _ ⟨hHeld, (Kd.R_mono HO375.out (fun _ hk => ⟨hk.1.2, hk.2⟩)), (Kd.R_mono HO378.out (fun _ hk => ⟨hk.1.2, hk.2⟩)), (Kd.R_mono HO381.out (fun _ hk => ⟨hk.1.2, hk.2⟩)), BK369.out, BK370.out, BK383.out, GW383.out, GE383.out, NB369_383.out, NB383_369.out, NB370_383.out, NB383_370.out, HB.out⟩)
    ·skip
     refine box_step ?hg (N := 6) ?hd (cs := #[.slice none 0 0]) (t := 24) ?hr ?_; (case hd => rfl); (case hg => rfl); (case hr => first | (go_simp; done) | (go_simp; rfl))
     intro gb383 hg w34 hbox hb
     have n0_ := Aside0.mk (blk_below BK369.out hb)
     have n1_ := Aside0.mk (blk_below BK370.out hb)
     have n2_ := Aside0.mk (below_step HB.out hb)
     have n3_ := Aside0.mk (hbox)
     have n4_ := Aside0.mk ((by rw [hg]; exact (below_size HB.out) : w.heap.size ≤ gb383))
     have n5_ := Aside0.mk ((by rw [hg]; exact (below_size HB.out) : w.heap.size ≤ gb383))
     have n6_ := Aside0.mk ((by rw [hg]; exact Nat.ne_of_lt (blk_lt BK369.out) : gb369 ≠ gb383))
     have n7_ := Aside0.mk ((by rw [hg]; exact Nat.ne_of_gt (blk_lt BK369.out) : gb383 ≠ gb369))
     have n8_ := Aside0.mk ((by rw [hg]; exact Nat.ne_of_lt (blk_lt BK370.out) : gb370 ≠ gb383))
     have n9_ := Aside0.mk ((by rw [hg]; exact Nat.ne_of_gt (blk_lt BK370.out) : gb383 ≠ gb370))
     revert n0_ n1_ n2_ n3_ n4_ n5_ n6_ n7_ n8_ n9_
     clear BK369 BK370 HB
     intro BK369 BK370 HB BK383 GW383 GE383 NB369_383 NB383_369 NB370_383 NB383_370
     clear hb hbox hg
     refine hK.out _ _ ⟨(blk_cell BK369.out 0).trans rfl, (blk_cell BK370.out 0).trans rfl⟩ (fun hHeld => ?_)
     clear hK K
     refine norm_ (a' := ?_) ?_ ?_
     rotate_left
     ·show Act.put _ (some 6) _ = _
      simp only [Act.put, List.setIfInBounds_toArray, List.set_cons_zero, List.set_cons_succ, i64_w, i32_w]
      rfl
     refine one_ (i := 1) (N := some 29) #[true, true, true, false, false, false, false, false, true, false, false] rfl rfl (one_of HT_.out (by kernel_rfl)) (by decide) (fun K hK => ?_)
     refine goes_ Try.func14 (by kernel_rfl) rfl #[.agg #[.slice A0_0 l0_0.length c0_0]] (by rfl) rfl rfl (by (try simp only [List.map_toArray, List.map_cons, List.map_nil]); first | done | rfl | (simp only [List.length_drop, List.length_take]; rfl)) ?_
     with_reducible refine (laws_toTrie.calls k _ _ l0_0 t373 _ ?side1 ?side2 A19.out).mono ?_
     (case side1 => exact (Kd.C_below HR0_0.out HB.out))
     (case side2 => exact HC0_0.out)
     rintro e w35 ⟨v374, rfl, ho0, hb⟩
     refine ⟨_, rfl, ?_⟩
     have n0_ := Aside0.mk (Kd.R_lower ho0 (below_size HB.out))
     have n1_ := Aside0.mk (blk_below BK369.out hb)
     have n2_ := Aside0.mk (blk_below BK370.out hb)
     have n3_ := Aside0.mk (blk_below BK383.out hb)
     have n4_ := Aside0.mk (below_step HB.out hb)
     revert n0_ n1_ n2_ n3_ n4_
     clear BK369 BK370 BK383 HB
     intro HO375 BK369 BK370 BK383 HB
     (try clear hb)
     (try clear hb2)
     (try clear hk)
     (try clear hi)
     (try clear ho0)
     refine hK.out _ _ ⟨(blk_cell BK369.out 0).trans rfl, (blk_cell BK370.out 0).trans rfl⟩ (fun hHeld => ?_)
     clear hK K
     refine norm_ (a' := ?_) ?_ ?_
     rotate_left
     ·show Act.put _ (some 29) _ = _
      simp only [Act.put, List.setIfInBounds_toArray, List.set_cons_zero, List.set_cons_succ, i64_w, i32_w]
      rfl
     refine one_ (i := 3) (N := some 31) #[true, true, true, true, false, false, false, false, true, false, false] rfl rfl (one_of HT_.out (by kernel_rfl)) (by decide) (fun K hK => ?_)
     refine goes_ Try.func14 (by kernel_rfl) rfl #[.agg #[.slice A1_0 l1_0.length c1_0]] (by rfl) rfl rfl (by (try simp only [List.map_toArray, List.map_cons, List.map_nil]); first | done | rfl | (simp only [List.length_drop, List.length_take]; rfl)) ?_
     with_reducible refine (laws_toTrie.calls k _ _ l1_0 t376 _ ?side1 ?side2 A20.out).mono ?_
     (case side1 => exact (Kd.C_below HR1_0.out HB.out))
     (case side2 => exact HC1_0.out)
     rintro e w36 ⟨v377, rfl, ho0, hb⟩
     refine ⟨_, rfl, ?_⟩
     have n0_ := Aside0.mk (Kd.R_elder' HO375.out (Kd.R_base ho0) hb)
     have n1_ := Aside0.mk (Kd.R_lower (Kd.R_new' ho0 (Kd.R_lt HO375.out)) (below_size HB.out))
     have n2_ := Aside0.mk (blk_below BK369.out hb)
     have n3_ := Aside0.mk (blk_below BK370.out hb)
     have n4_ := Aside0.mk (blk_below BK383.out hb)
     have n5_ := Aside0.mk (below_step HB.out hb)
     revert n0_ n1_ n2_ n3_ n4_ n5_
     clear HO375 BK369 BK370 BK383 HB
     intro HO375 HO378 BK369 BK370 BK383 HB
     (try clear hb)
     (try clear hb2)
     (try clear hk)
     (try clear hi)
     (try clear ho0)
     obtain ⟨Ao37, co37, eo37⟩ := Kd.R_slice HO375.out
     (first | subst eo37 | (injection eo37 with f1_ f2_ f3_; have f4_ := f1_.symm; have f5_ := f3_.symm; clear f1_ f2_ f3_; subst f4_; subst f5_))
     obtain ⟨Ao38, co38, eo38⟩ := Kd.R_slice HO378.out
     (first | subst eo38 | (injection eo38 with f1_ f2_ f3_; have f4_ := f1_.symm; have f5_ := f3_.symm; clear f1_ f2_ f3_; subst f4_; subst f5_))
     refine hK.out _ _ ⟨(blk_cell BK369.out 0).trans rfl, (blk_cell BK370.out 0).trans rfl⟩ (fun hHeld => ?_)
     clear hK K
     refine norm_ (a' := ?_) ?_ ?_
     rotate_left
     ·show Act.put _ (some 31) _ = _
      simp only [Act.put, List.setIfInBounds_toArray, List.set_cons_zero, List.set_cons_succ, i64_w, i32_w]
      rfl
     refine one_ (i := 4) (N := some 32) #[true, true, true, true, true, false, false, false, true, false, false] rfl rfl (one_of HT_.out (by kernel_rfl)) (by decide) (fun K hK => ?_)
     refine goes_ Try.func13 (by kernel_rfl) rfl #[.agg #[.slice Ao37 t373.length co37], .agg #[.slice Ao38 t376.length co38]] (by rfl) rfl rfl (by (try simp only [List.map_toArray, List.map_cons, List.map_nil]); first | done | rfl | (simp only [List.length_drop, List.length_take]; rfl)) ?_
     with_reducible refine (spec_MeetTries.calls k _ _ t373 _ _ t376 t379 t382 _ ?side1 ?side2 ?side3 ?side4 A21.out).mono ?_
     (case side1 => exact (Kd.R_reads' HO375.out).2.2)
     (case side2 => exact (Kd.R_reads' HO375.out).2.1)
     (case side3 => exact (Kd.R_reads' HO378.out).2.2)
     (case side4 => exact (Kd.R_reads' HO378.out).2.1)
     rintro e w39 ⟨v380, rfl, ho0, hb⟩
     refine ⟨_, rfl, ?_⟩
     have n0_ := Aside0.mk (Kd.R_elder' HO375.out (Kd.R_base ho0) hb)
     have n1_ := Aside0.mk (Kd.R_elder' HO378.out (Kd.R_base ho0) hb)
     have n2_ := Aside0.mk (Kd.R_lower (Kd.R_new' (Kd.R_new' ho0 (Kd.R_lt HO375.out)) (Kd.R_lt HO378.out)) (below_size HB.out))
     have n3_ := Aside0.mk (blk_below BK369.out hb)
     have n4_ := Aside0.mk (blk_below BK370.out hb)
     have n5_ := Aside0.mk (blk_below BK383.out hb)
     have n6_ := Aside0.mk (below_step HB.out hb)
     revert n0_ n1_ n2_ n3_ n4_ n5_ n6_
     clear HO375 HO378 BK369 BK370 BK383 HB
     intro HO375 HO378 HO381 BK369 BK370 BK383 HB
     (try clear hb)
     (try clear hb2)
     (try clear hk)
     (try clear hi)
     (try clear ho0)
     refine hK.out _ _ ⟨(blk_cell BK369.out 0).trans rfl, (blk_cell BK370.out 0).trans rfl⟩ (fun hHeld => ?_)
     clear hK K
     refine norm_ (a' := ?_) ?_ ?_
     rotate_left
     ·show Act.put _ (some 32) _ = _
      simp only [Act.put, List.setIfInBounds_toArray, List.set_cons_zero, List.set_cons_succ, i64_w, i32_w]
      rfl
     refine pure_ (i := 5) (N := some 27) (v := ?_) (a' := ?_) #[true, true, true, true, true, true, false, false, true, false, false] rfl rfl (any_of HT_.out (by kernel_rfl)) (fun _ _ _ h => h) (Or.inl ⟨by rfl, ?_⟩) ?_ ?_
     rotate_left
     ·intro w'
      go_simp
      with_reducible rfl
     rotate_left
     ·simp only [Act.put, List.setIfInBounds_toArray, List.set_cons_zero, List.set_cons_succ, i64_w, i32_w]
      rfl
     refine pure_ (i := 6) (N := some 33) (v := ?_) (a' := ?_) #[true, true, true, true, true, true, true, false, true, false, false] rfl rfl (any_of HT_.out (by kernel_rfl)) (fun _ _ _ h => h) (Or.inl ⟨by rfl, ?_⟩) ?_ ?_
     rotate_left
     ·intro w'
      go_simp
      with_reducible rfl
     rotate_left
     ·simp only [Act.put, List.setIfInBounds_toArray, List.set_cons_zero, List.set_cons_succ, i64_w, i32_w]
      rfl
     refine pure_ (i := 7) (N := some 34) (v := ?_) (a' := ?_) #[true, true, true, true, true, true, true, true, true, false, false] rfl rfl (any_of HT_.out (by kernel_rfl)) (fun _ _ _ h => h) (Or.inl ⟨by rfl, ?_⟩) ?_ ?_
     rotate_left
     ·intro w'
      go_simp
      with_reducible rfl
     rotate_left
     ·simp only [Act.put, List.setIfInBounds_toArray, List.set_cons_zero, List.set_cons_succ, i64_w, i32_w]
      rfl
     exact norm_ (by simp only [putAll, Act.put, List.setIfInBounds_toArray, List.set_cons_zero, List.set_cons_succ]) (hCont (.slice Ao37 t373.length co37, .slice Ao38 t376.length co38, v380, gb383) _ ⟨hHeld, (Kd.R_mono HO375.out (fun _ hk => ⟨hk.1.2, hk.2⟩)), (Kd.R_mono HO378.out (fun _ hk => ⟨hk.1.2, hk.2⟩)), (Kd.R_mono HO381.out (fun _ hk => ⟨hk.1.2, hk.2⟩)), BK369.out, BK370.out, BK383.out, GW383.out, GE383.out, NB369_383.out, NB383_369.out, NB370_383.out, NB383_370.out, HB.out⟩)
   rintro ⟨v374, v377, v380, gb383⟩ w40 ⟨hS_, h0_, h1_, h2_, h3_, h4_, h5_, h6_, h7_, h8_, h9_, h10_, h11_, h12_⟩
   have n0_ : Aside0 (Kd.R k67 67 w40 w.heap.size (fun k_ => some k_ ≠ (v377 : Value).ownBlock ∧ some k_ ≠ (v380 : Value).ownBlock) v374 t373) := ⟨h0_⟩
   have n1_ : Aside0 (Kd.R k67 67 w40 w.heap.size (fun k_ => some k_ ≠ (v374 : Value).ownBlock ∧ some k_ ≠ (v380 : Value).ownBlock) v377 t376) := ⟨h1_⟩
   have n2_ : Aside0 (Kd.R k67 67 w40 w.heap.size (fun k_ => some k_ ≠ (v374 : Value).ownBlock ∧ some k_ ≠ (v377 : Value).ownBlock) v380 t379) := ⟨h2_⟩
   have n3_ : Aside0 (w40.heap[gb369]? = some (.cells #[.slice A0_0 l0_0.length c0_0] 32 (0, 0))) := ⟨h3_⟩
   have n4_ : Aside0 (w40.heap[gb370]? = some (.cells #[.slice A1_0 l1_0.length c1_0] 32 (0, 0))) := ⟨h4_⟩
   have n5_ : Aside0 (w40.heap[gb383]? = some (.cells #[.slice none 0 0] 24 (0, 0))) := ⟨h5_⟩
   have n6_ : Aside0 (w.heap.size ≤ gb383) := ⟨h6_⟩
   have n7_ : Aside0 (w.heap.size ≤ gb383) := ⟨h7_⟩
   have n8_ : Aside0 (gb369 ≠ gb383) := ⟨h8_⟩
   have n9_ : Aside0 (gb383 ≠ gb369) := ⟨h9_⟩
   have n10_ : Aside0 (gb370 ≠ gb383) := ⟨h10_⟩
   have n11_ : Aside0 (gb383 ≠ gb370) := ⟨h11_⟩
   have n12_ : Aside0 (Below w.heap.size w w40) := ⟨h12_⟩
   clear BK369
   clear BK370
   clear HB
   clear h0_ h1_ h2_ h3_ h4_ h5_ h6_ h7_ h8_ h9_ h10_ h11_ h12_
   have HO375 := n0_
   have HO378 := n1_
   have HO381 := n2_
   have BK369 := n3_
   have BK370 := n4_
   have BK383 := n5_
   have GW383 := n6_
   have GE383 := n7_
   have NB369_383 := n8_
   have NB383_369 := n9_
   have NB370_383 := n10_
   have NB383_370 := n11_
   have HB := n12_
   clear n0_ n1_ n2_ n3_ n4_ n5_ n6_ n7_ n8_ n9_ n10_ n11_ n12_
   have hHeld : w40.cell? ⟨gb369, 0, none⟩ = some (.slice A0_0 l0_0.length c0_0) ∧ w40.cell? ⟨gb370, 0, none⟩ = some (.slice A1_0 l1_0.length c1_0) := hS_
   obtain ⟨Ao41, co41, eo41⟩ := Kd.R_slice HO381.out
   (first | subst eo41 | (injection eo41 with f1_ f2_ f3_; have f4_ := f1_.symm; have f5_ := f3_.symm; clear f1_ f2_ f3_; subst f4_; subst f5_))
   refine norm_ (a' := ?_) ?_ ?_
   rotate_left
   ·simp only [putAll, Act.put, List.setIfInBounds_toArray, List.set_cons_zero, List.set_cons_succ]
    rfl
   refine one_ (i := 9) (N := none) #[true, true, true, true, true, true, true, true, true, true, false] rfl rfl (one_of HT_.out (by kernel_rfl)) (by decide) (fun K hK => ?_)
   have hs42 : w40.cell? ⟨gb383, 0, none⟩ = some (.slice none 0 0) := (blk_cell BK383.out 0).trans rfl
   have hfs42 := blk_frozen BK383.out 0
   have hns42_0 := NB369_383.out
   have hns42_1 := NB370_383.out
   have hms42_0 := NB383_369.out
   have hms42_1 := NB383_370.out
   refine skip_ (w1 := ?_) (by rfl) rfl ?_ ?_
   rotate_left
   ·go_simp
    rfl
   refine hK.out _ _ ⟨((cell_far (p := ⟨gb383, _, none⟩) NB369_383.out _).trans (hHeld.1)), ((cell_far (p := ⟨gb383, _, none⟩) NB370_383.out _).trans (hHeld.2))⟩ (fun hHeld => ?_)
   clear hK K
   refine pure_ (i := 10) (N := some 7) (v := ?_) (a' := ?_) #[true, true, true, true, true, true, true, true, true, true, true] rfl rfl (any_of HT_.out (by kernel_rfl)) (fun _ _ _ h => h) (Or.inl ⟨by rfl, ?_⟩) ?_ ?_
   rotate_left
   ·intro w'
    go_simp
    with_reducible rfl
   rotate_left
   ·simp only [Act.put, List.setIfInBounds_toArray, List.set_cons_zero, List.set_cons_succ, i64_w, i32_w]
    rfl
   refine done_ (done_of HT_.out (by kernel_rfl)) ?_
   have hnb43 := NB369_383.out
   have hnc43 := NB383_369.out
   have hcz44_0 : w40.cell? ⟨gb369, 0, none⟩ = some (.slice A0_0 l0_0.length c0_0) := (blk_cell BK369.out 0).trans rfl
   have hfz44_0 := blk_frozen BK369.out 0
   go_upto_region 12 with (first | ((with_reducible refine gate_callee (f := 14) rfl ?_); refine goesL_ (some 36) rfl rfl Try.func14 (by kernel_rfl) rfl #[.agg #[.slice A0_0 l0_0.length c0_0]] rfl (by (try simp only [List.map_toArray, List.map_cons, List.map_nil]); first | done | rfl | (simp only [List.length_drop, List.length_take]; rfl)) ?_; (with_reducible refine (laws_toTrie.calls k _ _ l0_0 t384 _ ?side1 ?side2 A22.out).mono ?_); (case side1 => exact Kd.C_below HR0_0.out (by repeat (first | (with_reducible first | exact HB.out | apply below_alloc | apply pw_below_drewN | apply below_drew1 | refine below_set ?_ GE369.out | refine below_set ?_ GE370.out | refine below_set ?_ GE383.out) | exact HB.out))); (case side2 => exact HC0_0.out); rintro e w45 ⟨v385, rfl, ho0, hb⟩; refine ⟨_, rfl, ?_⟩; have n0_ := Aside0.mk (Kd.R_elder' (by (with_reducible repeat (first | apply Kd.R_alloc | apply Kd.R_drewN | apply Kd.R_drew)); exact (Kd.R_mono (R_same_ (Kd.R_far (p := ⟨gb383, 0, none⟩) (Kd.R_types HO375.out BK383.out (by decide)) (fun _ hk => hk.2) (.slice Ao41 t379.length co41)) rfl) (fun _ h_ => h_.1))) (Kd.R_base ho0) hb); have n1_ := Aside0.mk (Kd.R_elder' (by (with_reducible repeat (first | apply Kd.R_alloc | apply Kd.R_drewN | apply Kd.R_drew)); exact (Kd.R_mono (R_same_ (Kd.R_far (p := ⟨gb383, 0, none⟩) (Kd.R_types HO378.out BK383.out (by decide)) (fun _ hk => hk.2) (.slice Ao41 t379.length co41)) rfl) (fun _ h_ => h_.1))) (Kd.R_base ho0) hb); have n2_ := Aside0.mk (Kd.R_elder' (by (with_reducible repeat (first | apply Kd.R_alloc | apply Kd.R_drewN | apply Kd.R_drew)); exact (Kd.R_mono (R_same_ (Kd.R_far (p := ⟨gb383, 0, none⟩) (Kd.R_types HO381.out BK383.out (by decide)) (fun _ hk => hk.2) (.slice Ao41 t379.length co41)) rfl) (fun _ h_ => h_.1))) (Kd.R_base ho0) hb); have n3_ := Aside0.mk (Kd.R_lower (Kd.R_new' (Kd.R_new' (Kd.R_new' ho0 (Kd.R_lt (by (with_reducible repeat (first | apply Kd.R_alloc | apply Kd.R_drewN | apply Kd.R_drew)); exact (Kd.R_mono (R_same_ (Kd.R_far (p := ⟨gb383, 0, none⟩) (Kd.R_types HO375.out BK383.out (by decide)) (fun _ hk => hk.2) (.slice Ao41 t379.length co41)) rfl) (fun _ h_ => h_.1))))) (Kd.R_lt (by (with_reducible repeat (first | apply Kd.R_alloc | apply Kd.R_drewN | apply Kd.R_drew)); exact (Kd.R_mono (R_same_ (Kd.R_far (p := ⟨gb383, 0, none⟩) (Kd.R_types HO378.out BK383.out (by decide)) (fun _ hk => hk.2) (.slice Ao41 t379.length co41)) rfl) (fun _ h_ => h_.1))))) (Kd.R_lt (by (with_reducible repeat (first | apply Kd.R_alloc | apply Kd.R_drewN | apply Kd.R_drew)); exact (Kd.R_mono (R_same_ (Kd.R_far (p := ⟨gb383, 0, none⟩) (Kd.R_types HO381.out BK383.out (by decide)) (fun _ hk => hk.2) (.slice Ao41 t379.length co41)) rfl) (fun _ h_ => h_.1))))) (below_size (by repeat (first | (with_reducible first | exact HB.out | apply below_alloc | apply pw_below_drewN | apply below_drew1 | refine below_set ?_ GE369.out | refine below_set ?_ GE370.out | refine below_set ?_ GE383.out) | exact HB.out)))); have n4_ := Aside0.mk (blk_below (g := gb369) (o := .cells #[.slice A0_0 l0_0.length c0_0] 32 (0, 0)) (by (with_reducible repeat (first | refine blk_drewN ?_ _ | refine blk_drew ?_ | refine blk_alloc ?_ _)); refine blk_far ?_ NB369_383.out _; (with_reducible repeat (first | refine blk_drewN ?_ _ | refine blk_drew ?_ | refine blk_alloc ?_ _)); exact BK369.out) hb); have n5_ := Aside0.mk (blk_below (g := gb370) (o := .cells #[.slice A1_0 l1_0.length c1_0] 32 (0, 0)) (by (with_reducible repeat (first | refine blk_drewN ?_ _ | refine blk_drew ?_ | refine blk_alloc ?_ _)); refine blk_far ?_ NB370_383.out _; (with_reducible repeat (first | refine blk_drewN ?_ _ | refine blk_drew ?_ | refine blk_alloc ?_ _)); exact BK370.out) hb); have n6_ := Aside0.mk (blk_below (g := gb383) (o := .cells #[.slice Ao41 t379.length co41] 24 (0, 0)) (by (with_reducible repeat (first | refine blk_drewN ?_ _ | refine blk_drew ?_ | refine blk_alloc ?_ _)); refine blk_put (cs := #[.slice none 0 0]) ?_ 0 _ rfl; (with_reducible repeat (first | refine blk_drewN ?_ _ | refine blk_drew ?_ | refine blk_alloc ?_ _)); exact BK383.out) hb); have n7_ := Aside0.mk (below_step (by repeat (first | (with_reducible first | exact HB.out | apply below_alloc | apply pw_below_drewN | apply below_drew1 | refine below_set ?_ GE369.out | refine below_set ?_ GE370.out | refine below_set ?_ GE383.out) | exact HB.out)) hb); clear HO375; clear HO378; clear HO381; clear BK369; clear BK370; clear BK383; clear HB; have HO375 := n0_; have HO378 := n1_; have HO381 := n2_; have HO386 := n3_; have BK369 := n4_; have BK370 := n5_; have BK383 := n6_; have HB := n7_; clear n0_ n1_ n2_ n3_ n4_ n5_ n6_ n7_; (try clear hb); (try clear hb2); (try clear hk); (try clear hi); (try clear ho0)) | ((with_reducible refine gate_dst (N := 8) rfl ?_); refine box_event ?hg (N := 8) ?hd (cs := #[.slice none 0 0]) (t := 24) ?hr ?_; (case hd => rfl); (case hg => rfl); (case hr => first | (go_simp; done) | (go_simp; rfl)); intro gb387 hg w46 hbox hb; have n0_ := Aside0.mk (Kd.R_below (by (with_reducible repeat (first | apply Kd.R_alloc | apply Kd.R_drewN | apply Kd.R_drew)); exact HO375.out) hb); have n1_ := Aside0.mk (Kd.R_below (by (with_reducible repeat (first | apply Kd.R_alloc | apply Kd.R_drewN | apply Kd.R_drew)); exact HO378.out) hb); have n2_ := Aside0.mk (Kd.R_below (by (with_reducible repeat (first | apply Kd.R_alloc | apply Kd.R_drewN | apply Kd.R_drew)); exact HO381.out) hb); have n3_ := Aside0.mk (Kd.R_below (by (with_reducible repeat (first | apply Kd.R_alloc | apply Kd.R_drewN | apply Kd.R_drew)); exact HO386.out) hb); have n4_ := Aside0.mk (blk_below (g := gb369) (o := .cells #[.slice A0_0 l0_0.length c0_0] 32 (0, 0)) (by (with_reducible repeat (first | refine blk_drewN ?_ _ | refine blk_drew ?_ | refine blk_alloc ?_ _)); exact BK369.out) hb); have n5_ := Aside0.mk (blk_below (g := gb370) (o := .cells #[.slice A1_0 l1_0.length c1_0] 32 (0, 0)) (by (with_reducible repeat (first | refine blk_drewN ?_ _ | refine blk_drew ?_ | refine blk_alloc ?_ _)); exact BK370.out) hb); have n6_ := Aside0.mk (blk_below (g := gb383) (o := .cells #[.slice Ao41 t379.length co41] 24 (0, 0)) (by (with_reducible repeat (first | refine blk_drewN ?_ _ | refine blk_drew ?_ | refine blk_alloc ?_ _)); exact BK383.out) hb); have n7_ := Aside0.mk (below_step (by repeat (first | (with_reducible first | exact HB.out | apply below_alloc | apply pw_below_drewN | apply below_drew1 | refine below_set ?_ GE369.out | refine below_set ?_ GE370.out | refine below_set ?_ GE383.out) | exact HB.out)) hb); have n8_ := Aside0.mk (hbox); have n9_ := Aside0.mk ((by rw [hg]; exact (below_size (by repeat (first | (with_reducible first | exact HB.out | apply below_alloc | apply pw_below_drewN | apply below_drew1 | refine below_set ?_ GE369.out | refine below_set ?_ GE370.out | refine below_set ?_ GE383.out) | exact HB.out))) : w.heap.size ≤ gb387)); have n10_ := Aside0.mk ((by rw [hg]; exact (below_size (by repeat (first | (with_reducible first | exact HB.out | apply below_alloc | apply pw_below_drewN | apply below_drew1 | refine below_set ?_ GE369.out | refine below_set ?_ GE370.out | refine below_set ?_ GE383.out) | exact HB.out))) : w.heap.size ≤ gb387)); have n11_ := Aside0.mk ((by rw [hg]; exact Nat.ne_of_lt (blk_lt (g := gb369) (o := .cells #[.slice A0_0 l0_0.length c0_0] 32 (0, 0)) (by (with_reducible repeat (first | refine blk_drewN ?_ _ | refine blk_drew ?_ | refine blk_alloc ?_ _)); exact BK369.out)) : gb369 ≠ gb387)); have n12_ := Aside0.mk ((by rw [hg]; exact Nat.ne_of_gt (blk_lt (g := gb369) (o := .cells #[.slice A0_0 l0_0.length c0_0] 32 (0, 0)) (by (with_reducible repeat (first | refine blk_drewN ?_ _ | refine blk_drew ?_ | refine blk_alloc ?_ _)); exact BK369.out)) : gb387 ≠ gb369)); have n13_ := Aside0.mk ((by rw [hg]; exact Nat.ne_of_lt (blk_lt (g := gb370) (o := .cells #[.slice A1_0 l1_0.length c1_0] 32 (0, 0)) (by (with_reducible repeat (first | refine blk_drewN ?_ _ | refine blk_drew ?_ | refine blk_alloc ?_ _)); exact BK370.out)) : gb370 ≠ gb387)); have n14_ := Aside0.mk ((by rw [hg]; exact Nat.ne_of_gt (blk_lt (g := gb370) (o := .cells #[.slice A1_0 l1_0.length c1_0] 32 (0, 0)) (by (with_reducible repeat (first | refine blk_drewN ?_ _ | refine blk_drew ?_ | refine blk_alloc ?_ _)); exact BK370.out)) : gb387 ≠ gb370)); have n15_ := Aside0.mk ((by rw [hg]; exact Nat.ne_of_lt (blk_lt (g := gb383) (o := .cells #[.slice Ao41 t379.length co41] 24 (0, 0)) (by (with_reducible repeat (first | refine blk_drewN ?_ _ | refine blk_drew ?_ | refine blk_alloc ?_ _)); exact BK383.out)) : gb383 ≠ gb387)); have n16_ := Aside0.mk ((by rw [hg]; exact Nat.ne_of_gt (blk_lt (g := gb383) (o := .cells #[.slice Ao41 t379.length co41] 24 (0, 0)) (by (with_reducible repeat (first | refine blk_drewN ?_ _ | refine blk_drew ?_ | refine blk_alloc ?_ _)); exact BK383.out)) : gb387 ≠ gb383)); clear HO375; clear HO378; clear HO381; clear HO386; clear BK369; clear BK370; clear BK383; clear HB; have HO375 := n0_; have HO378 := n1_; have HO381 := n2_; have HO386 := n3_; have BK369 := n4_; have BK370 := n5_; have BK383 := n6_; have HB := n7_; have BK387 := n8_; have GW387 := n9_; have GE387 := n10_; have NB369_387 := n11_; have NB387_369 := n12_; have NB370_387 := n13_; have NB387_370 := n14_; have NB383_387 := n15_; have NB387_383 := n16_; clear n0_ n1_ n2_ n3_ n4_ n5_ n6_ n7_ n8_ n9_ n10_ n11_ n12_ n13_ n14_ n15_ n16_; clear hb hbox hg; obtain ⟨Ao47, co47, eo47⟩ := Kd.R_slice HO386.out; subst eo47; have hnb48 := NB387_369.out; have hnc48 := NB369_387.out; have hnb49 := NB387_370.out; have hnc49 := NB370_387.out; have hnb50 := NB387_383.out; have hnc50 := NB383_387.out; have hcz51_0 : w46.cell? ⟨gb387, 0, none⟩ = some (.slice none 0 0) := (blk_cell BK387.out 0).trans rfl; have hfz51_0 := blk_frozen BK387.out 0; have hnb52 := NB370_383.out; have hnc52 := NB383_370.out; have hcz53_0 : w46.cell? ⟨gb370, 0, none⟩ = some (.slice A1_0 l1_0.length c1_0) := (blk_cell BK370.out 0).trans rfl; have hfz53_0 := blk_frozen BK370.out 0) | ((with_reducible refine gate_callee (f := 14) rfl ?_); refine goesL_ (some 38) rfl rfl Try.func14 (by kernel_rfl) rfl #[.agg #[.slice A1_0 l1_0.length c1_0]] rfl (by (try simp only [List.map_toArray, List.map_cons, List.map_nil]); first | done | rfl | (simp only [List.length_drop, List.length_take]; rfl)) ?_; (with_reducible refine (laws_toTrie.calls k _ _ l1_0 t388 _ ?side1 ?side2 A23.out).mono ?_); (case side1 => exact Kd.C_below HR1_0.out (by repeat (first | (with_reducible first | exact HB.out | apply below_alloc | apply pw_below_drewN | apply below_drew1 | refine below_set ?_ GE369.out | refine below_set ?_ GE370.out | refine below_set ?_ GE383.out | refine below_set ?_ GE387.out) | exact HB.out))); (case side2 => exact HC1_0.out); rintro e w54 ⟨v389, rfl, ho0, hb⟩; refine ⟨_, rfl, ?_⟩; have n0_ := Aside0.mk (Kd.R_elder' (by (with_reducible repeat (first | apply Kd.R_alloc | apply Kd.R_drewN | apply Kd.R_drew)); exact (Kd.R_mono (R_same_ (Kd.R_far (p := ⟨gb387, 0, none⟩) (Kd.R_types HO375.out BK387.out (by decide)) (fun _ hk => hk.2) (.slice Ao47 t384.length co47)) rfl) (fun _ h_ => h_.1))) (Kd.R_base ho0) hb); have n1_ := Aside0.mk (Kd.R_elder' (by (with_reducible repeat (first | apply Kd.R_alloc | apply Kd.R_drewN | apply Kd.R_drew)); exact (Kd.R_mono (R_same_ (Kd.R_far (p := ⟨gb387, 0, none⟩) (Kd.R_types HO378.out BK387.out (by decide)) (fun _ hk => hk.2) (.slice Ao47 t384.length co47)) rfl) (fun _ h_ => h_.1))) (Kd.R_base ho0) hb); have n2_ := Aside0.mk (Kd.R_elder' (by (with_reducible repeat (first | apply Kd.R_alloc | apply Kd.R_drewN | apply Kd.R_drew)); exact (Kd.R_mono (R_same_ (Kd.R_far (p := ⟨gb387, 0, none⟩) (Kd.R_types HO381.out BK387.out (by decide)) (fun _ hk => hk.2) (.slice Ao47 t384.length co47)) rfl) (fun _ h_ => h_.1))) (Kd.R_base ho0) hb); have n3_ := Aside0.mk (Kd.R_elder' (by (with_reducible repeat (first | apply Kd.R_alloc | apply Kd.R_drewN | apply Kd.R_drew)); exact (Kd.R_mono (R_same_ (Kd.R_far (p := ⟨gb387, 0, none⟩) (Kd.R_types HO386.out BK387.out (by decide)) (fun _ hk => hk.2) (.slice Ao47 t384.length co47)) rfl) (fun _ h_ => h_.1))) (Kd.R_base ho0) hb); have n4_ := Aside0.mk (Kd.R_lower (Kd.R_new' (Kd.R_new' (Kd.R_new' (Kd.R_new' ho0 (Kd.R_lt (by (with_reducible repeat (first | apply Kd.R_alloc | apply Kd.R_drewN | apply Kd.R_drew)); exact (Kd.R_mono (R_same_ (Kd.R_far (p := ⟨gb387, 0, none⟩) (Kd.R_types HO375.out BK387.out (by decide)) (fun _ hk => hk.2) (.slice Ao47 t384.length co47)) rfl) (fun _ h_ => h_.1))))) (Kd.R_lt (by (with_reducible repeat (first | apply Kd.R_alloc | apply Kd.R_drewN | apply Kd.R_drew)); exact (Kd.R_mono (R_same_ (Kd.R_far (p := ⟨gb387, 0, none⟩) (Kd.R_types HO378.out BK387.out (by decide)) (fun _ hk => hk.2) (.slice Ao47 t384.length co47)) rfl) (fun _ h_ => h_.1))))) (Kd.R_lt (by (with_reducible repeat (first | apply Kd.R_alloc | apply Kd.R_drewN | apply Kd.R_drew)); exact (Kd.R_mono (R_same_ (Kd.R_far (p := ⟨gb387, 0, none⟩) (Kd.R_types HO381.out BK387.out (by decide)) (fun _ hk => hk.2) (.slice Ao47 t384.length co47)) rfl) (fun _ h_ => h_.1))))) (Kd.R_lt (by (with_reducible repeat (first | apply Kd.R_alloc | apply Kd.R_drewN | apply Kd.R_drew)); exact (Kd.R_mono (R_same_ (Kd.R_far (p := ⟨gb387, 0, none⟩) (Kd.R_types HO386.out BK387.out (by decide)) (fun _ hk => hk.2) (.slice Ao47 t384.length co47)) rfl) (fun _ h_ => h_.1))))) (below_size (by repeat (first | (with_reducible first | exact HB.out | apply below_alloc | apply pw_below_drewN | apply below_drew1 | refine below_set ?_ GE369.out | refine below_set ?_ GE370.out | refine below_set ?_ GE383.out | refine below_set ?_ GE387.out) | exact HB.out)))); have n5_ := Aside0.mk (blk_below (g := gb369) (o := .cells #[.slice A0_0 l0_0.length c0_0] 32 (0, 0)) (by (with_reducible repeat (first | refine blk_drewN ?_ _ | refine blk_drew ?_ | refine blk_alloc ?_ _)); refine blk_far ?_ NB369_387.out _; (with_reducible repeat (first | refine blk_drewN ?_ _ | refine blk_drew ?_ | refine blk_alloc ?_ _)); exact BK369.out) hb); have n6_ := Aside0.mk (blk_below (g := gb370) (o := .cells #[.slice A1_0 l1_0.length c1_0] 32 (0, 0)) (by (with_reducible repeat (first | refine blk_drewN ?_ _ | refine blk_drew ?_ | refine blk_alloc ?_ _)); refine blk_far ?_ NB370_387.out _; (with_reducible repeat (first | refine blk_drewN ?_ _ | refine blk_drew ?_ | refine blk_alloc ?_ _)); exact BK370.out) hb); have n7_ := Aside0.mk (blk_below (g := gb383) (o := .cells #[.slice Ao41 t379.length co41] 24 (0, 0)) (by (with_reducible repeat (first | refine blk_drewN ?_ _ | refine blk_drew ?_ | refine blk_alloc ?_ _)); refine blk_far ?_ NB383_387.out _; (with_reducible repeat (first | refine blk_drewN ?_ _ | refine blk_drew ?_ | refine blk_alloc ?_ _)); exact BK383.out) hb); have n8_ := Aside0.mk (blk_below (g := gb387) (o := .cells #[.slice Ao47 t384.length co47] 24 (0, 0)) (by (with_reducible repeat (first | refine blk_drewN ?_ _ | refine blk_drew ?_ | refine blk_alloc ?_ _)); refine blk_put (cs := #[.slice none 0 0]) ?_ 0 _ rfl; (with_reducible repeat (first | refine blk_drewN ?_ _ | refine blk_drew ?_ | refine blk_alloc ?_ _)); exact BK387.out) hb); have n9_ := Aside0.mk (below_step (by repeat (first | (with_reducible first | exact HB.out | apply below_alloc | apply pw_below_drewN | apply below_drew1 | refine below_set ?_ GE369.out | refine below_set ?_ GE370.out | refine below_set ?_ GE383.out | refine below_set ?_ GE387.out) | exact HB.out)) hb); clear HO375; clear HO378; clear HO381; clear HO386; clear BK369; clear BK370; clear BK383; clear BK387; clear HB; have HO375 := n0_; have HO378 := n1_; have HO381 := n2_; have HO386 := n3_; have HO390 := n4_; have BK369 := n5_; have BK370 := n6_; have BK383 := n7_; have BK387 := n8_; have HB := n9_; clear n0_ n1_ n2_ n3_ n4_ n5_ n6_ n7_ n8_ n9_; (try clear hb); (try clear hb2); (try clear hk); (try clear hi); (try clear ho0)) | ((with_reducible refine gate_dst (N := 9) rfl ?_); refine box_event ?hg (N := 9) ?hd (cs := #[.slice none 0 0]) (t := 24) ?hr ?_; (case hd => rfl); (case hg => rfl); (case hr => first | (go_simp; done) | (go_simp; rfl)); intro gb391 hg w55 hbox hb; have n0_ := Aside0.mk (Kd.R_below (by (with_reducible repeat (first | apply Kd.R_alloc | apply Kd.R_drewN | apply Kd.R_drew)); exact HO375.out) hb); have n1_ := Aside0.mk (Kd.R_below (by (with_reducible repeat (first | apply Kd.R_alloc | apply Kd.R_drewN | apply Kd.R_drew)); exact HO378.out) hb); have n2_ := Aside0.mk (Kd.R_below (by (with_reducible repeat (first | apply Kd.R_alloc | apply Kd.R_drewN | apply Kd.R_drew)); exact HO381.out) hb); have n3_ := Aside0.mk (Kd.R_below (by (with_reducible repeat (first | apply Kd.R_alloc | apply Kd.R_drewN | apply Kd.R_drew)); exact HO386.out) hb); have n4_ := Aside0.mk (Kd.R_below (by (with_reducible repeat (first | apply Kd.R_alloc | apply Kd.R_drewN | apply Kd.R_drew)); exact HO390.out) hb); have n5_ := Aside0.mk (blk_below (g := gb369) (o := .cells #[.slice A0_0 l0_0.length c0_0] 32 (0, 0)) (by (with_reducible repeat (first | refine blk_drewN ?_ _ | refine blk_drew ?_ | refine blk_alloc ?_ _)); exact BK369.out) hb); have n6_ := Aside0.mk (blk_below (g := gb370) (o := .cells #[.slice A1_0 l1_0.length c1_0] 32 (0, 0)) (by (with_reducible repeat (first | refine blk_drewN ?_ _ | refine blk_drew ?_ | refine blk_alloc ?_ _)); exact BK370.out) hb); have n7_ := Aside0.mk (blk_below (g := gb383) (o := .cells #[.slice Ao41 t379.length co41] 24 (0, 0)) (by (with_reducible repeat (first | refine blk_drewN ?_ _ | refine blk_drew ?_ | refine blk_alloc ?_ _)); exact BK383.out) hb); have n8_ := Aside0.mk (blk_below (g := gb387) (o := .cells #[.slice Ao47 t384.length co47] 24 (0, 0)) (by (with_reducible repeat (first | refine blk_drewN ?_ _ | refine blk_drew ?_ | refine blk_alloc ?_ _)); exact BK387.out) hb); have n9_ := Aside0.mk (below_step (by repeat (first | (with_reducible first | exact HB.out | apply below_alloc | apply pw_below_drewN | apply below_drew1 | refine below_set ?_ GE369.out | refine below_set ?_ GE370.out | refine below_set ?_ GE383.out | refine below_set ?_ GE387.out) | exact HB.out)) hb); have n10_ := Aside0.mk (hbox); have n11_ := Aside0.mk ((by rw [hg]; exact (below_size (by repeat (first | (with_reducible first | exact HB.out | apply below_alloc | apply pw_below_drewN | apply below_drew1 | refine below_set ?_ GE369.out | refine below_set ?_ GE370.out | refine below_set ?_ GE383.out | refine below_set ?_ GE387.out) | exact HB.out))) : w.heap.size ≤ gb391)); have n12_ := Aside0.mk ((by rw [hg]; exact (below_size (by repeat (first | (with_reducible first | exact HB.out | apply below_alloc | apply pw_below_drewN | apply below_drew1 | refine below_set ?_ GE369.out | refine below_set ?_ GE370.out | refine below_set ?_ GE383.out | refine below_set ?_ GE387.out) | exact HB.out))) : w.heap.size ≤ gb391)); have n13_ := Aside0.mk ((by rw [hg]; exact Nat.ne_of_lt (blk_lt (g := gb369) (o := .cells #[.slice A0_0 l0_0.length c0_0] 32 (0, 0)) (by (with_reducible repeat (first | refine blk_drewN ?_ _ | refine blk_drew ?_ | refine blk_alloc ?_ _)); exact BK369.out)) : gb369 ≠ gb391)); have n14_ := Aside0.mk ((by rw [hg]; exact Nat.ne_of_gt (blk_lt (g := gb369) (o := .cells #[.slice A0_0 l0_0.length c0_0] 32 (0, 0)) (by (with_reducible repeat (first | refine blk_drewN ?_ _ | refine blk_drew ?_ | refine blk_alloc ?_ _)); exact BK369.out)) : gb391 ≠ gb369)); have n15_ := Aside0.mk ((by rw [hg]; exact Nat.ne_of_lt (blk_lt (g := gb370) (o := .cells #[.slice A1_0 l1_0.length c1_0] 32 (0, 0)) (by (with_reducible repeat (first | refine blk_drewN ?_ _ | refine blk_drew ?_ | refine blk_alloc ?_ _)); exact BK370.out)) : gb370 ≠ gb391)); have n16_ := Aside0.mk ((by rw [hg]; exact Nat.ne_of_gt (blk_lt (g := gb370) (o := .cells #[.slice A1_0 l1_0.length c1_0] 32 (0, 0)) (by (with_reducible repeat (first | refine blk_drewN ?_ _ | refine blk_drew ?_ | refine blk_alloc ?_ _)); exact BK370.out)) : gb391 ≠ gb370)); have n17_ := Aside0.mk ((by rw [hg]; exact Nat.ne_of_lt (blk_lt (g := gb383) (o := .cells #[.slice Ao41 t379.length co41] 24 (0, 0)) (by (with_reducible repeat (first | refine blk_drewN ?_ _ | refine blk_drew ?_ | refine blk_alloc ?_ _)); exact BK383.out)) : gb383 ≠ gb391)); have n18_ := Aside0.mk ((by rw [hg]; exact Nat.ne_of_gt (blk_lt (g := gb383) (o := .cells #[.slice Ao41 t379.length co41] 24 (0, 0)) (by (with_reducible repeat (first | refine blk_drewN ?_ _ | refine blk_drew ?_ | refine blk_alloc ?_ _)); exact BK383.out)) : gb391 ≠ gb383)); have n19_ := Aside0.mk ((by rw [hg]; exact Nat.ne_of_lt (blk_lt (g := gb387) (o := .cells #[.slice Ao47 t384.length co47] 24 (0, 0)) (by (with_reducible repeat (first | refine blk_drewN ?_ _ | refine blk_drew ?_ | refine blk_alloc ?_ _)); exact BK387.out)) : gb387 ≠ gb391)); have n20_ := Aside0.mk ((by rw [hg]; exact Nat.ne_of_gt (blk_lt (g := gb387) (o := .cells #[.slice Ao47 t384.length co47] 24 (0, 0)) (by (with_reducible repeat (first | refine blk_drewN ?_ _ | refine blk_drew ?_ | refine blk_alloc ?_ _)); exact BK387.out)) : gb391 ≠ gb387)); clear HO375; clear HO378; clear HO381; clear HO386; clear HO390; clear BK369; clear BK370; clear BK383; clear BK387; clear HB; have HO375 := n0_; have HO378 := n1_; have HO381 := n2_; have HO386 := n3_; have HO390 := n4_; have BK369 := n5_; have BK370 := n6_; have BK383 := n7_; have BK387 := n8_; have HB := n9_; have BK391 := n10_; have GW391 := n11_; have GE391 := n12_; have NB369_391 := n13_; have NB391_369 := n14_; have NB370_391 := n15_; have NB391_370 := n16_; have NB383_391 := n17_; have NB391_383 := n18_; have NB387_391 := n19_; have NB391_387 := n20_; clear n0_ n1_ n2_ n3_ n4_ n5_ n6_ n7_ n8_ n9_ n10_ n11_ n12_ n13_ n14_ n15_ n16_ n17_ n18_ n19_ n20_; clear hb hbox hg; obtain ⟨Ao56, co56, eo56⟩ := Kd.R_slice HO390.out; subst eo56; have hnb57 := NB391_369.out; have hnc57 := NB369_391.out; have hnb58 := NB391_370.out; have hnc58 := NB370_391.out; have hnb59 := NB391_383.out; have hnc59 := NB383_391.out; have hnb60 := NB391_387.out; have hnc60 := NB387_391.out; have hcz61_0 : w55.cell? ⟨gb391, 0, none⟩ = some (.slice none 0 0) := (blk_cell BK391.out 0).trans rfl; have hfz61_0 := blk_frozen BK391.out 0; have hcz62_0 : w55.cell? ⟨gb387, 0, none⟩ = some (.slice Ao47 t384.length co47) := (blk_cell BK387.out 0).trans rfl; have hfz62_0 := blk_frozen BK387.out 0) | ((with_reducible refine gate_callee (f := 15) rfl ?_); refine goesL_ (some 42) rfl rfl Try.func15 (by kernel_rfl) rfl #[.agg #[.slice Ao47 t384.length co47], .agg #[.slice Ao56 t388.length co56]] rfl (by (try simp only [List.map_toArray, List.map_cons, List.map_nil]); first | done | rfl | (simp only [List.length_drop, List.length_take]; rfl)) ?_; (with_reducible refine (impl_MeetTries.calls _ _ t384 _ _ t388 t392 t395 _ ?side1 ?side2 ?side3 ?side4 A24.out).mono ?_); (case side1 => refine (Kd.R_reads' (e := 67) (base := w.heap.size) (ok := fun k_ => ((((True ∧ some k_ ≠ (v374 : Value).ownBlock) ∧ some k_ ≠ (v377 : Value).ownBlock) ∧ some k_ ≠ (.slice Ao41 t379.length co41 : Value).ownBlock) ∧ some k_ ≠ (.slice Ao56 t388.length co56 : Value).ownBlock)) (n := t384.length) (c := co47) ?_).2.2; exact (by (with_reducible repeat (first | apply Kd.R_alloc | apply Kd.R_drewN | apply Kd.R_drew)); exact (Kd.R_mono (R_same_ (Kd.R_far (p := ⟨gb391, 0, none⟩) (Kd.R_types HO386.out BK391.out (by decide)) (fun _ hk => hk.2) (.slice Ao56 t388.length co56)) rfl) (fun _ h_ => h_.1)))); (case side2 => exact (Kd.R_reads' HO386.out).2.1); (case side3 => refine (Kd.R_reads' (e := 67) (base := w.heap.size) (ok := fun k_ => ((((True ∧ some k_ ≠ (v374 : Value).ownBlock) ∧ some k_ ≠ (v377 : Value).ownBlock) ∧ some k_ ≠ (.slice Ao41 t379.length co41 : Value).ownBlock) ∧ some k_ ≠ (.slice Ao47 t384.length co47 : Value).ownBlock)) (n := t388.length) (c := co56) ?_).2.2; exact (by (with_reducible repeat (first | apply Kd.R_alloc | apply Kd.R_drewN | apply Kd.R_drew)); exact (Kd.R_mono (R_same_ (Kd.R_far (p := ⟨gb391, 0, none⟩) (Kd.R_types HO390.out BK391.out (by decide)) (fun _ hk => hk.2) (.slice Ao56 t388.length co56)) rfl) (fun _ h_ => h_.1)))); (case side4 => exact (Kd.R_reads' HO390.out).2.1); rintro e w63 ⟨v393, rfl, ho0, hb⟩; refine ⟨_, rfl, ?_⟩; have n0_ := Aside0.mk (Kd.R_elder' (by (with_reducible repeat (first | apply Kd.R_alloc | apply Kd.R_drewN | apply Kd.R_drew)); exact (Kd.R_mono (R_same_ (Kd.R_far (p := ⟨gb391, 0, none⟩) (Kd.R_types HO375.out BK391.out (by decide)) (fun _ hk => hk.2) (.slice Ao56 t388.length co56)) rfl) (fun _ h_ => h_.1))) (Kd.R_base ho0) hb); have n1_ := Aside0.mk (Kd.R_elder' (by (with_reducible repeat (first | apply Kd.R_alloc | apply Kd.R_drewN | apply Kd.R_drew)); exact (Kd.R_mono (R_same_ (Kd.R_far (p := ⟨gb391, 0, none⟩) (Kd.R_types HO378.out BK391.out (by decide)) (fun _ hk => hk.2) (.slice Ao56 t388.length co56)) rfl) (fun _ h_ => h_.1))) (Kd.R_base ho0) hb); have n2_ := Aside0.mk (Kd.R_elder' (by (with_reducible repeat (first | apply Kd.R_alloc | apply Kd.R_drewN | apply Kd.R_drew)); exact (Kd.R_mono (R_same_ (Kd.R_far (p := ⟨gb391, 0, none⟩) (Kd.R_types HO381.out BK391.out (by decide)) (fun _ hk => hk.2) (.slice Ao56 t388.length co56)) rfl) (fun _ h_ => h_.1))) (Kd.R_base ho0) hb); have n3_ := Aside0.mk (Kd.R_elder' (by (with_reducible repeat (first | apply Kd.R_alloc | apply Kd.R_drewN | apply Kd.R_drew)); exact (Kd.R_mono (R_same_ (Kd.R_far (p := ⟨gb391, 0, none⟩) (Kd.R_types HO386.out BK391.out (by decide)) (fun _ hk => hk.2) (.slice Ao56 t388.length co56)) rfl) (fun _ h_ => h_.1))) (Kd.R_base ho0) hb); have n4_ := Aside0.mk (Kd.R_elder' (by (with_reducible repeat (first | apply Kd.R_alloc | apply Kd.R_drewN | apply Kd.R_drew)); exact (Kd.R_mono (R_same_ (Kd.R_far (p := ⟨gb391, 0, none⟩) (Kd.R_types HO390.out BK391.out (by decide)) (fun _ hk => hk.2) (.slice Ao56 t388.length co56)) rfl) (fun _ h_ => h_.1))) (Kd.R_base ho0) hb); have n5_ := Aside0.mk (Kd.R_lower (Kd.R_new' (Kd.R_new' (Kd.R_new' (Kd.R_new' (Kd.R_new' ho0 (Kd.R_lt (by (with_reducible repeat (first | apply Kd.R_alloc | apply Kd.R_drewN | apply Kd.R_drew)); exact (Kd.R_mono (R_same_ (Kd.R_far (p := ⟨gb391, 0, none⟩) (Kd.R_types HO375.out BK391.out (by decide)) (fun _ hk => hk.2) (.slice Ao56 t388.length co56)) rfl) (fun _ h_ => h_.1))))) (Kd.R_lt (by (with_reducible repeat (first | apply Kd.R_alloc | apply Kd.R_drewN | apply Kd.R_drew)); exact (Kd.R_mono (R_same_ (Kd.R_far (p := ⟨gb391, 0, none⟩) (Kd.R_types HO378.out BK391.out (by decide)) (fun _ hk => hk.2) (.slice Ao56 t388.length co56)) rfl) (fun _ h_ => h_.1))))) (Kd.R_lt (by (with_reducible repeat (first | apply Kd.R_alloc | apply Kd.R_drewN | apply Kd.R_drew)); exact (Kd.R_mono (R_same_ (Kd.R_far (p := ⟨gb391, 0, none⟩) (Kd.R_types HO381.out BK391.out (by decide)) (fun _ hk => hk.2) (.slice Ao56 t388.length co56)) rfl) (fun _ h_ => h_.1))))) (Kd.R_lt (by (with_reducible repeat (first | apply Kd.R_alloc | apply Kd.R_drewN | apply Kd.R_drew)); exact (Kd.R_mono (R_same_ (Kd.R_far (p := ⟨gb391, 0, none⟩) (Kd.R_types HO386.out BK391.out (by decide)) (fun _ hk => hk.2) (.slice Ao56 t388.length co56)) rfl) (fun _ h_ => h_.1))))) (Kd.R_lt (by (with_reducible repeat (first | apply Kd.R_alloc | apply Kd.R_drewN | apply Kd.R_drew)); exact (Kd.R_mono (R_same_ (Kd.R_far (p := ⟨gb391, 0, none⟩) (Kd.R_types HO390.out BK391.out (by decide)) (fun _ hk => hk.2) (.slice Ao56 t388.length co56)) rfl) (fun _ h_ => h_.1))))) (below_size (by repeat (first | (with_reducible first | exact HB.out | apply below_alloc | apply pw_below_drewN | apply below_drew1 | refine below_set ?_ GE369.out | refine below_set ?_ GE370.out | refine below_set ?_ GE383.out | refine below_set ?_ GE387.out | refine below_set ?_ GE391.out) | exact HB.out)))); have n6_ := Aside0.mk (blk_below (g := gb369) (o := .cells #[.slice A0_0 l0_0.length c0_0] 32 (0, 0)) (by (with_reducible repeat (first | refine blk_drewN ?_ _ | refine blk_drew ?_ | refine blk_alloc ?_ _)); refine blk_far ?_ NB369_391.out _; (with_reducible repeat (first | refine blk_drewN ?_ _ | refine blk_drew ?_ | refine blk_alloc ?_ _)); exact BK369.out) hb); have n7_ := Aside0.mk (blk_below (g := gb370) (o := .cells #[.slice A1_0 l1_0.length c1_0] 32 (0, 0)) (by (with_reducible repeat (first | refine blk_drewN ?_ _ | refine blk_drew ?_ | refine blk_alloc ?_ _)); refine blk_far ?_ NB370_391.out _; (with_reducible repeat (first | refine blk_drewN ?_ _ | refine blk_drew ?_ | refine blk_alloc ?_ _)); exact BK370.out) hb); have n8_ := Aside0.mk (blk_below (g := gb383) (o := .cells #[.slice Ao41 t379.length co41] 24 (0, 0)) (by (with_reducible repeat (first | refine blk_drewN ?_ _ | refine blk_drew ?_ | refine blk_alloc ?_ _)); refine blk_far ?_ NB383_391.out _; (with_reducible repeat (first | refine blk_drewN ?_ _ | refine blk_drew ?_ | refine blk_alloc ?_ _)); exact BK383.out) hb); have n9_ := Aside0.mk (blk_below (g := gb387) (o := .cells #[.slice Ao47 t384.length co47] 24 (0, 0)) (by (with_reducible repeat (first | refine blk_drewN ?_ _ | refine blk_drew ?_ | refine blk_alloc ?_ _)); refine blk_far ?_ NB387_391.out _; (with_reducible repeat (first | refine blk_drewN ?_ _ | refine blk_drew ?_ | refine blk_alloc ?_ _)); exact BK387.out) hb); have n10_ := Aside0.mk (blk_below (g := gb391) (o := .cells #[.slice Ao56 t388.length co56] 24 (0, 0)) (by (with_reducible repeat (first | refine blk_drewN ?_ _ | refine blk_drew ?_ | refine blk_alloc ?_ _)); refine blk_put (cs := #[.slice none 0 0]) ?_ 0 _ rfl; (with_reducible repeat (first | refine blk_drewN ?_ _ | refine blk_drew ?_ | refine blk_alloc ?_ _)); exact BK391.out) hb); have n11_ := Aside0.mk (below_step (by repeat (first | (with_reducible first | exact HB.out | apply below_alloc | apply pw_below_drewN | apply below_drew1 | refine below_set ?_ GE369.out | refine below_set ?_ GE370.out | refine below_set ?_ GE383.out | refine below_set ?_ GE387.out | refine below_set ?_ GE391.out) | exact HB.out)) hb); clear HO375; clear HO378; clear HO381; clear HO386; clear HO390; clear BK369; clear BK370; clear BK383; clear BK387; clear BK391; clear HB; have HO375 := n0_; have HO378 := n1_; have HO381 := n2_; have HO386 := n3_; have HO390 := n4_; have HO394 := n5_; have BK369 := n6_; have BK370 := n7_; have BK383 := n8_; have BK387 := n9_; have BK391 := n10_; have HB := n11_; clear n0_ n1_ n2_ n3_ n4_ n5_ n6_ n7_ n8_ n9_ n10_ n11_; (try clear hb); (try clear hb2); (try clear hk); (try clear hi); (try clear ho0)) | ((with_reducible refine gate_dst (N := 10) rfl ?_); refine box_event ?hg (N := 10) ?hd (cs := #[.slice none 0 0]) (t := 24) ?hr ?_; (case hd => rfl); (case hg => rfl); (case hr => first | (go_simp; done) | (go_simp; rfl)); intro gb396 hg w64 hbox hb; have n0_ := Aside0.mk (Kd.R_below (by (with_reducible repeat (first | apply Kd.R_alloc | apply Kd.R_drewN | apply Kd.R_drew)); exact HO375.out) hb); have n1_ := Aside0.mk (Kd.R_below (by (with_reducible repeat (first | apply Kd.R_alloc | apply Kd.R_drewN | apply Kd.R_drew)); exact HO378.out) hb); have n2_ := Aside0.mk (Kd.R_below (by (with_reducible repeat (first | apply Kd.R_alloc | apply Kd.R_drewN | apply Kd.R_drew)); exact HO381.out) hb); have n3_ := Aside0.mk (Kd.R_below (by (with_reducible repeat (first | apply Kd.R_alloc | apply Kd.R_drewN | apply Kd.R_drew)); exact HO386.out) hb); have n4_ := Aside0.mk (Kd.R_below (by (with_reducible repeat (first | apply Kd.R_alloc | apply Kd.R_drewN | apply Kd.R_drew)); exact HO390.out) hb); have n5_ := Aside0.mk (Kd.R_below (by (with_reducible repeat (first | apply Kd.R_alloc | apply Kd.R_drewN | apply Kd.R_drew)); exact HO394.out) hb); have n6_ := Aside0.mk (blk_below (g := gb369) (o := .cells #[.slice A0_0 l0_0.length c0_0] 32 (0, 0)) (by (with_reducible repeat (first | refine blk_drewN ?_ _ | refine blk_drew ?_ | refine blk_alloc ?_ _)); exact BK369.out) hb); have n7_ := Aside0.mk (blk_below (g := gb370) (o := .cells #[.slice A1_0 l1_0.length c1_0] 32 (0, 0)) (by (with_reducible repeat (first | refine blk_drewN ?_ _ | refine blk_drew ?_ | refine blk_alloc ?_ _)); exact BK370.out) hb); have n8_ := Aside0.mk (blk_below (g := gb383) (o := .cells #[.slice Ao41 t379.length co41] 24 (0, 0)) (by (with_reducible repeat (first | refine blk_drewN ?_ _ | refine blk_drew ?_ | refine blk_alloc ?_ _)); exact BK383.out) hb); have n9_ := Aside0.mk (blk_below (g := gb387) (o := .cells #[.slice Ao47 t384.length co47] 24 (0, 0)) (by (with_reducible repeat (first | refine blk_drewN ?_ _ | refine blk_drew ?_ | refine blk_alloc ?_ _)); exact BK387.out) hb); have n10_ := Aside0.mk (blk_below (g := gb391) (o := .cells #[.slice Ao56 t388.length co56] 24 (0, 0)) (by (with_reducible repeat (first | refine blk_drewN ?_ _ | refine blk_drew ?_ | refine blk_alloc ?_ _)); exact BK391.out) hb); have n11_ := Aside0.mk (below_step (by repeat (first | (with_reducible first | exact HB.out | apply below_alloc | apply pw_below_drewN | apply below_drew1 | refine below_set ?_ GE369.out | refine below_set ?_ GE370.out | refine below_set ?_ GE383.out | refine below_set ?_ GE387.out | refine below_set ?_ GE391.out) | exact HB.out)) hb); have n12_ := Aside0.mk (hbox); have n13_ := Aside0.mk ((by rw [hg]; exact (below_size (by repeat (first | (with_reducible first | exact HB.out | apply below_alloc | apply pw_below_drewN | apply below_drew1 | refine below_set ?_ GE369.out | refine below_set ?_ GE370.out | refine below_set ?_ GE383.out | refine below_set ?_ GE387.out | refine below_set ?_ GE391.out) | exact HB.out))) : w.heap.size ≤ gb396)); have n14_ := Aside0.mk ((by rw [hg]; exact (below_size (by repeat (first | (with_reducible first | exact HB.out | apply below_alloc | apply pw_below_drewN | apply below_drew1 | refine below_set ?_ GE369.out | refine below_set ?_ GE370.out | refine below_set ?_ GE383.out | refine below_set ?_ GE387.out | refine below_set ?_ GE391.out) | exact HB.out))) : w.heap.size ≤ gb396)); have n15_ := Aside0.mk ((by rw [hg]; exact Nat.ne_of_lt (blk_lt (g := gb369) (o := .cells #[.slice A0_0 l0_0.length c0_0] 32 (0, 0)) (by (with_reducible repeat (first | refine blk_drewN ?_ _ | refine blk_drew ?_ | refine blk_alloc ?_ _)); exact BK369.out)) : gb369 ≠ gb396)); have n16_ := Aside0.mk ((by rw [hg]; exact Nat.ne_of_gt (blk_lt (g := gb369) (o := .cells #[.slice A0_0 l0_0.length c0_0] 32 (0, 0)) (by (with_reducible repeat (first | refine blk_drewN ?_ _ | refine blk_drew ?_ | refine blk_alloc ?_ _)); exact BK369.out)) : gb396 ≠ gb369)); have n17_ := Aside0.mk ((by rw [hg]; exact Nat.ne_of_lt (blk_lt (g := gb370) (o := .cells #[.slice A1_0 l1_0.length c1_0] 32 (0, 0)) (by (with_reducible repeat (first | refine blk_drewN ?_ _ | refine blk_drew ?_ | refine blk_alloc ?_ _)); exact BK370.out)) : gb370 ≠ gb396)); have n18_ := Aside0.mk ((by rw [hg]; exact Nat.ne_of_gt (blk_lt (g := gb370) (o := .cells #[.slice A1_0 l1_0.length c1_0] 32 (0, 0)) (by (with_reducible repeat (first | refine blk_drewN ?_ _ | refine blk_drew ?_ | refine blk_alloc ?_ _)); exact BK370.out)) : gb396 ≠ gb370)); have n19_ := Aside0.mk ((by rw [hg]; exact Nat.ne_of_lt (blk_lt (g := gb383) (o := .cells #[.slice Ao41 t379.length co41] 24 (0, 0)) (by (with_reducible repeat (first | refine blk_drewN ?_ _ | refine blk_drew ?_ | refine blk_alloc ?_ _)); exact BK383.out)) : gb383 ≠ gb396)); have n20_ := Aside0.mk ((by rw [hg]; exact Nat.ne_of_gt (blk_lt (g := gb383) (o := .cells #[.slice Ao41 t379.length co41] 24 (0, 0)) (by (with_reducible repeat (first | refine blk_drewN ?_ _ | refine blk_drew ?_ | refine blk_alloc ?_ _)); exact BK383.out)) : gb396 ≠ gb383)); have n21_ := Aside0.mk ((by rw [hg]; exact Nat.ne_of_lt (blk_lt (g := gb387) (o := .cells #[.slice Ao47 t384.length co47] 24 (0, 0)) (by (with_reducible repeat (first | refine blk_drewN ?_ _ | refine blk_drew ?_ | refine blk_alloc ?_ _)); exact BK387.out)) : gb387 ≠ gb396)); have n22_ := Aside0.mk ((by rw [hg]; exact Nat.ne_of_gt (blk_lt (g := gb387) (o := .cells #[.slice Ao47 t384.length co47] 24 (0, 0)) (by (with_reducible repeat (first | refine blk_drewN ?_ _ | refine blk_drew ?_ | refine blk_alloc ?_ _)); exact BK387.out)) : gb396 ≠ gb387)); have n23_ := Aside0.mk ((by rw [hg]; exact Nat.ne_of_lt (blk_lt (g := gb391) (o := .cells #[.slice Ao56 t388.length co56] 24 (0, 0)) (by (with_reducible repeat (first | refine blk_drewN ?_ _ | refine blk_drew ?_ | refine blk_alloc ?_ _)); exact BK391.out)) : gb391 ≠ gb396)); have n24_ := Aside0.mk ((by rw [hg]; exact Nat.ne_of_gt (blk_lt (g := gb391) (o := .cells #[.slice Ao56 t388.length co56] 24 (0, 0)) (by (with_reducible repeat (first | refine blk_drewN ?_ _ | refine blk_drew ?_ | refine blk_alloc ?_ _)); exact BK391.out)) : gb396 ≠ gb391)); clear HO375; clear HO378; clear HO381; clear HO386; clear HO390; clear HO394; clear BK369; clear BK370; clear BK383; clear BK387; clear BK391; clear HB; have HO375 := n0_; have HO378 := n1_; have HO381 := n2_; have HO386 := n3_; have HO390 := n4_; have HO394 := n5_; have BK369 := n6_; have BK370 := n7_; have BK383 := n8_; have BK387 := n9_; have BK391 := n10_; have HB := n11_; have BK396 := n12_; have GW396 := n13_; have GE396 := n14_; have NB369_396 := n15_; have NB396_369 := n16_; have NB370_396 := n17_; have NB396_370 := n18_; have NB383_396 := n19_; have NB396_383 := n20_; have NB387_396 := n21_; have NB396_387 := n22_; have NB391_396 := n23_; have NB396_391 := n24_; clear n0_ n1_ n2_ n3_ n4_ n5_ n6_ n7_ n8_ n9_ n10_ n11_ n12_ n13_ n14_ n15_ n16_ n17_ n18_ n19_ n20_ n21_ n22_ n23_ n24_; clear hb hbox hg; obtain ⟨Ao65, co65, eo65⟩ := Kd.R_slice HO394.out; subst eo65; have hnb66 := NB396_369.out; have hnc66 := NB369_396.out; have hnb67 := NB396_370.out; have hnc67 := NB370_396.out; have hnb68 := NB396_383.out; have hnc68 := NB383_396.out; have hnb69 := NB396_387.out; have hnc69 := NB387_396.out; have hnb70 := NB396_391.out; have hnc70 := NB391_396.out; have hcz71_0 : w64.cell? ⟨gb396, 0, none⟩ = some (.slice none 0 0) := (blk_cell BK396.out 0).trans rfl; have hfz71_0 := blk_frozen BK396.out 0))
   (try simp only [Act.put, List.setIfInBounds_toArray, List.set_cons_zero, List.set_cons_succ])
   go_cut [53] (fun v53 wc => ∃ (kq : Nat) (x53_24 : Bool), v53 = .bool x53_24 ∧ Aside0 (laws_FnExactMeetTries.j0 kq t382 t395 x53_24 l0_0 l1_0 t379 t384 t388 t392 = some true) ∧ Aside0 (kq ≤ k) ∧ Aside0 (Kd.R k67 67 wc w.heap.size (fun k_ => some k_ ≠ ((.slice Ao47 t384.length co47) : Value).ownBlock ∧ some k_ ≠ ((.slice Ao56 t388.length co56) : Value).ownBlock ∧ some k_ ≠ ((.slice Ao65 t392.length co65) : Value).ownBlock) (.slice Ao41 t379.length co41) t379) ∧ Aside0 (Kd.R k67 67 wc w.heap.size (fun k_ => some k_ ≠ ((.slice Ao41 t379.length co41) : Value).ownBlock ∧ some k_ ≠ ((.slice Ao56 t388.length co56) : Value).ownBlock ∧ some k_ ≠ ((.slice Ao65 t392.length co65) : Value).ownBlock) (.slice Ao47 t384.length co47) t384) ∧ Aside0 (Kd.R k67 67 wc w.heap.size (fun k_ => some k_ ≠ ((.slice Ao41 t379.length co41) : Value).ownBlock ∧ some k_ ≠ ((.slice Ao47 t384.length co47) : Value).ownBlock ∧ some k_ ≠ ((.slice Ao65 t392.length co65) : Value).ownBlock) (.slice Ao56 t388.length co56) t388) ∧ Aside0 (Kd.R k67 67 wc w.heap.size (fun k_ => some k_ ≠ ((.slice Ao41 t379.length co41) : Value).ownBlock ∧ some k_ ≠ ((.slice Ao47 t384.length co47) : Value).ownBlock ∧ some k_ ≠ ((.slice Ao56 t388.length co56) : Value).ownBlock) (.slice Ao65 t392.length co65) t392) ∧ Aside0 (wc.heap[gb369]? = some (.cells #[(.slice A0_0 l0_0.length c0_0)] 32 (0, 0))) ∧ Aside0 (wc.heap[gb370]? = some (.cells #[(.slice A1_0 l1_0.length c1_0)] 32 (0, 0))) ∧ Aside0 (wc.heap[gb383]? = some (.cells #[(.slice Ao41 t379.length co41)] 24 (0, 0))) ∧ Aside0 (wc.heap[gb387]? = some (.cells #[(.slice Ao47 t384.length co47)] 24 (0, 0))) ∧ Aside0 (wc.heap[gb391]? = some (.cells #[(.slice Ao56 t388.length co56)] 24 (0, 0))) ∧ Aside0 (wc.heap[gb396]? = some (.cells #[(.slice Ao65 t392.length co65)] 24 (0, 0))) ∧ Aside0 (Below w.heap.size w wc))
   case first =>
    have H := HC25.out
    clear HC25
    replace H := Option.bind_eq_some_iff.mp H
    obtain ⟨t397, A720, H⟩ := H
    replace H : (if t397 = true then (laws_FnExactMeetTries.j0 k t382 t395 (t395 != t382) l0_0 l1_0 t379 t384 t388 t392) else (laws_FnExactMeetTries.j0 k t382 t395 true l0_0 l1_0 t379 t384 t388 t392)) = some true := H
    have A72 := Aside0.mk A720
    clear A720
    by_cases c73 : t397 = true
    ·subst c73
     have H1 : (laws_FnExactMeetTries.j0 k t382 t395 (t395 != t382) l0_0 l1_0 t379 t384 t388 t392) = some true := by rw [if_pos rfl] at H; exact H
     clear H
     have H := H1
     clear H1
     have H' := Aside0.mk H
     clear H
     have hnb74 := NB396_369.out
     have hnc74 := NB369_396.out
     have hnb75 := NB396_370.out
     have hnc75 := NB370_396.out
     have hnb76 := NB396_383.out
     have hnc76 := NB383_396.out
     have hnb77 := NB396_387.out
     have hnc77 := NB387_396.out
     have hnb78 := NB396_391.out
     have hnc78 := NB391_396.out
     have hcz79_0 : w64.cell? ⟨gb396, 0, none⟩ = some (.slice none 0 0) := (blk_cell BK396.out 0).trans rfl
     have hfz79_0 := blk_frozen BK396.out 0
     have hnb80 := NB383_369.out
     have hnc80 := NB369_383.out
     have hnb81 := NB383_370.out
     have hnc81 := NB370_383.out
     have hnb82 := NB383_387.out
     have hnc82 := NB387_383.out
     have hnb83 := NB383_391.out
     have hnc83 := NB391_383.out
     have hcz84_0 : w64.cell? ⟨gb383, 0, none⟩ = some (.slice Ao41 t379.length co41) := (blk_cell BK383.out 0).trans rfl
     have hfz84_0 := blk_frozen BK383.out 0
     go_wp2_with (first | ((with_reducible refine gate_callee (f := 9) rfl ?_); refine goesL_ (some 47) rfl rfl Try.func9 (by kernel_rfl) rfl #[.agg #[.slice Ao65 t392.length co65], .agg #[.slice Ao41 t379.length co41]] rfl (by (try simp only [List.map_toArray, List.map_cons, List.map_nil]); first | done | rfl | (simp only [List.length_drop, List.length_take]; rfl)) ?_; (with_reducible refine (laws_eqTrie.calls k _ _ t392 _ _ t379 true _ ?side1 ?side2 ?side3 ?side4 A72.out).mono ?_); (case side1 => refine (Kd.R_reads' (e := 67) (base := w.heap.size) (ok := fun k_ => (((((True ∧ some k_ ≠ (v374 : Value).ownBlock) ∧ some k_ ≠ (v377 : Value).ownBlock) ∧ some k_ ≠ (.slice Ao41 t379.length co41 : Value).ownBlock) ∧ some k_ ≠ (.slice Ao47 t384.length co47 : Value).ownBlock) ∧ some k_ ≠ (.slice Ao56 t388.length co56 : Value).ownBlock)) (n := t392.length) (c := co65) ?_).2.2; exact (by (with_reducible repeat (first | apply Kd.R_alloc | apply Kd.R_drewN | apply Kd.R_drew)); exact (Kd.R_mono (R_same_ (Kd.R_far (p := ⟨gb396, 0, none⟩) (Kd.R_types HO394.out BK396.out (by decide)) (fun _ hk => hk.2) (.slice Ao65 t392.length co65)) rfl) (fun _ h_ => h_.1)))); (case side2 => exact (Kd.R_reads' HO394.out).2.1); (case side3 => refine (Kd.R_reads' (e := 67) (base := w.heap.size) (ok := fun k_ => ((((some k_ ≠ (v374 : Value).ownBlock ∧ some k_ ≠ (v377 : Value).ownBlock) ∧ some k_ ≠ (.slice Ao47 t384.length co47 : Value).ownBlock) ∧ some k_ ≠ (.slice Ao56 t388.length co56 : Value).ownBlock) ∧ some k_ ≠ (.slice Ao65 t392.length co65 : Value).ownBlock)) (n := t379.length) (c := co41) ?_).2.2; exact (by (with_reducible repeat (first | apply Kd.R_alloc | apply Kd.R_drewN | apply Kd.R_drew)); exact (Kd.R_mono (R_same_ (Kd.R_far (p := ⟨gb396, 0, none⟩) (Kd.R_types HO381.out BK396.out (by decide)) (fun _ hk => hk.2) (.slice Ao65 t392.length co65)) rfl) (fun _ h_ => h_.1)))); (case side4 => exact (Kd.R_reads' HO381.out).2.1); rintro e w85 ⟨rfl, hb⟩; refine ⟨_, rfl, ?_⟩; have n0_ := Aside0.mk (Kd.R_below (by (with_reducible repeat (first | apply Kd.R_alloc | apply Kd.R_drewN | apply Kd.R_drew)); exact (Kd.R_mono (R_same_ (Kd.R_far (p := ⟨gb396, 0, none⟩) (Kd.R_types HO375.out BK396.out (by decide)) (fun _ hk => hk.2) (.slice Ao65 t392.length co65)) rfl) (fun _ h_ => h_.1))) hb); have n1_ := Aside0.mk (Kd.R_below (by (with_reducible repeat (first | apply Kd.R_alloc | apply Kd.R_drewN | apply Kd.R_drew)); exact (Kd.R_mono (R_same_ (Kd.R_far (p := ⟨gb396, 0, none⟩) (Kd.R_types HO378.out BK396.out (by decide)) (fun _ hk => hk.2) (.slice Ao65 t392.length co65)) rfl) (fun _ h_ => h_.1))) hb); have n2_ := Aside0.mk (Kd.R_below (by (with_reducible repeat (first | apply Kd.R_alloc | apply Kd.R_drewN | apply Kd.R_drew)); exact (Kd.R_mono (R_same_ (Kd.R_far (p := ⟨gb396, 0, none⟩) (Kd.R_types HO381.out BK396.out (by decide)) (fun _ hk => hk.2) (.slice Ao65 t392.length co65)) rfl) (fun _ h_ => h_.1))) hb); have n3_ := Aside0.mk (Kd.R_below (by (with_reducible repeat (first | apply Kd.R_alloc | apply Kd.R_drewN | apply Kd.R_drew)); exact (Kd.R_mono (R_same_ (Kd.R_far (p := ⟨gb396, 0, none⟩) (Kd.R_types HO386.out BK396.out (by decide)) (fun _ hk => hk.2) (.slice Ao65 t392.length co65)) rfl) (fun _ h_ => h_.1))) hb); have n4_ := Aside0.mk (Kd.R_below (by (with_reducible repeat (first | apply Kd.R_alloc | apply Kd.R_drewN | apply Kd.R_drew)); exact (Kd.R_mono (R_same_ (Kd.R_far (p := ⟨gb396, 0, none⟩) (Kd.R_types HO390.out BK396.out (by decide)) (fun _ hk => hk.2) (.slice Ao65 t392.length co65)) rfl) (fun _ h_ => h_.1))) hb); have n5_ := Aside0.mk (Kd.R_below (by (with_reducible repeat (first | apply Kd.R_alloc | apply Kd.R_drewN | apply Kd.R_drew)); exact (Kd.R_mono (R_same_ (Kd.R_far (p := ⟨gb396, 0, none⟩) (Kd.R_types HO394.out BK396.out (by decide)) (fun _ hk => hk.2) (.slice Ao65 t392.length co65)) rfl) (fun _ h_ => h_.1))) hb); have n6_ := Aside0.mk (blk_below (g := gb369) (o := .cells #[.slice A0_0 l0_0.length c0_0] 32 (0, 0)) (by (with_reducible repeat (first | refine blk_drewN ?_ _ | refine blk_drew ?_ | refine blk_alloc ?_ _)); refine blk_far ?_ NB369_396.out _; (with_reducible repeat (first | refine blk_drewN ?_ _ | refine blk_drew ?_ | refine blk_alloc ?_ _)); exact BK369.out) hb); have n7_ := Aside0.mk (blk_below (g := gb370) (o := .cells #[.slice A1_0 l1_0.length c1_0] 32 (0, 0)) (by (with_reducible repeat (first | refine blk_drewN ?_ _ | refine blk_drew ?_ | refine blk_alloc ?_ _)); refine blk_far ?_ NB370_396.out _; (with_reducible repeat (first | refine blk_drewN ?_ _ | refine blk_drew ?_ | refine blk_alloc ?_ _)); exact BK370.out) hb); have n8_ := Aside0.mk (blk_below (g := gb383) (o := .cells #[.slice Ao41 t379.length co41] 24 (0, 0)) (by (with_reducible repeat (first | refine blk_drewN ?_ _ | refine blk_drew ?_ | refine blk_alloc ?_ _)); refine blk_far ?_ NB383_396.out _; (with_reducible repeat (first | refine blk_drewN ?_ _ | refine blk_drew ?_ | refine blk_alloc ?_ _)); exact BK383.out) hb); have n9_ := Aside0.mk (blk_below (g := gb387) (o := .cells #[.slice Ao47 t384.length co47] 24 (0, 0)) (by (with_reducible repeat (first | refine blk_drewN ?_ _ | refine blk_drew ?_ | refine blk_alloc ?_ _)); refine blk_far ?_ NB387_396.out _; (with_reducible repeat (first | refine blk_drewN ?_ _ | refine blk_drew ?_ | refine blk_alloc ?_ _)); exact BK387.out) hb); have n10_ := Aside0.mk (blk_below (g := gb391) (o := .cells #[.slice Ao56 t388.length co56] 24 (0, 0)) (by (with_reducible repeat (first | refine blk_drewN ?_ _ | refine blk_drew ?_ | refine blk_alloc ?_ _)); refine blk_far ?_ NB391_396.out _; (with_reducible repeat (first | refine blk_drewN ?_ _ | refine blk_drew ?_ | refine blk_alloc ?_ _)); exact BK391.out) hb); have n11_ := Aside0.mk (blk_below (g := gb396) (o := .cells #[.slice Ao65 t392.length co65] 24 (0, 0)) (by (with_reducible repeat (first | refine blk_drewN ?_ _ | refine blk_drew ?_ | refine blk_alloc ?_ _)); refine blk_put (cs := #[.slice none 0 0]) ?_ 0 _ rfl; (with_reducible repeat (first | refine blk_drewN ?_ _ | refine blk_drew ?_ | refine blk_alloc ?_ _)); exact BK396.out) hb); have n12_ := Aside0.mk (below_step (by repeat (first | (with_reducible first | exact HB.out | apply below_alloc | apply pw_below_drewN | apply below_drew1 | refine below_set ?_ GE369.out | refine below_set ?_ GE370.out | refine below_set ?_ GE383.out | refine below_set ?_ GE387.out | refine below_set ?_ GE391.out | refine below_set ?_ GE396.out) | exact HB.out)) hb); clear HO375; clear HO378; clear HO381; clear HO386; clear HO390; clear HO394; clear BK369; clear BK370; clear BK383; clear BK387; clear BK391; clear BK396; clear HB; have HO375 := n0_; have HO378 := n1_; have HO381 := n2_; have HO386 := n3_; have HO390 := n4_; have HO394 := n5_; have BK369 := n6_; have BK370 := n7_; have BK383 := n8_; have BK387 := n9_; have BK391 := n10_; have BK396 := n11_; have HB := n12_; clear n0_ n1_ n2_ n3_ n4_ n5_ n6_ n7_ n8_ n9_ n10_ n11_ n12_; (try clear hb); (try clear hb2); (try clear hk); (try clear hi)))
     go_meet
     case rel => exact ⟨_, ((t395 != t382)), (by first | rfl | (simp; done) | (simp [*]; done)), H', ⟨by first | omega | exact Nat.le_refl _⟩, ⟨by (with_reducible repeat (first | apply Kd.R_alloc | apply Kd.R_drewN | apply Kd.R_drew)); exact Kd.R_mono HO381.out (fun _ hk => ⟨hk.1.1.2, ⟨hk.1.2, hk.2⟩⟩)⟩, ⟨by (with_reducible repeat (first | apply Kd.R_alloc | apply Kd.R_drewN | apply Kd.R_drew)); exact Kd.R_mono HO386.out (fun _ hk => ⟨hk.1.1.2, ⟨hk.1.2, hk.2⟩⟩)⟩, ⟨by (with_reducible repeat (first | apply Kd.R_alloc | apply Kd.R_drewN | apply Kd.R_drew)); exact Kd.R_mono HO390.out (fun _ hk => ⟨hk.1.1.2, ⟨hk.1.2, hk.2⟩⟩)⟩, ⟨by (with_reducible repeat (first | apply Kd.R_alloc | apply Kd.R_drewN | apply Kd.R_drew)); exact Kd.R_mono HO394.out (fun _ hk => ⟨hk.1.1.2, ⟨hk.1.2, hk.2⟩⟩)⟩, ⟨by (with_reducible repeat (first | refine blk_drewN ?_ _ | refine blk_drew ?_ | refine blk_alloc ?_ _)); exact BK369.out⟩, ⟨by (with_reducible repeat (first | refine blk_drewN ?_ _ | refine blk_drew ?_ | refine blk_alloc ?_ _)); exact BK370.out⟩, ⟨by (with_reducible repeat (first | refine blk_drewN ?_ _ | refine blk_drew ?_ | refine blk_alloc ?_ _)); exact BK383.out⟩, ⟨by (with_reducible repeat (first | refine blk_drewN ?_ _ | refine blk_drew ?_ | refine blk_alloc ?_ _)); exact BK387.out⟩, ⟨by (with_reducible repeat (first | refine blk_drewN ?_ _ | refine blk_drew ?_ | refine blk_alloc ?_ _)); exact BK391.out⟩, ⟨by (with_reducible repeat (first | refine blk_drewN ?_ _ | refine blk_drew ?_ | refine blk_alloc ?_ _)); exact BK396.out⟩, ⟨by repeat (first | (with_reducible first | exact HB.out | apply below_alloc | apply pw_below_drewN | apply below_drew1 | refine below_set ?_ GE369.out | refine below_set ?_ GE370.out | refine below_set ?_ GE383.out | refine below_set ?_ GE387.out | refine below_set ?_ GE391.out | refine below_set ?_ GE396.out) | exact HB.out)⟩⟩
    ·replace c73 := Bool.eq_false_iff.mpr c73
     subst c73
     have H1 : (laws_FnExactMeetTries.j0 k t382 t395 true l0_0 l1_0 t379 t384 t388 t392) = some true := by rw [if_neg (show ¬ (false = true) by decide)] at H; exact H
     exact absurd H1 (by cases k <;> simp [laws_FnExactMeetTries.j0])
   case rest =>
    clear HC25
    try clear c1
    try clear p2
    try clear c4
    try clear c5
    try clear c6
    try clear c7
    try clear c8
    try clear c9
    try clear c13
    try clear c14
    try clear c15
    try clear c43
    try clear c48
    try clear c49
    try clear c50
    try clear c52
    try clear c57
    try clear c58
    try clear c59
    try clear c60
    try clear c66
    try clear c67
    try clear c68
    try clear c69
    try clear c70
    try clear c73
    try clear c74
    try clear c75
    try clear c76
    try clear c77
    try clear c78
    try clear c80
    try clear c81
    try clear c82
    try clear c83
    try clear c86
    try clear c87
    try clear c88
    try clear c89
    try clear c90
    try clear c92
    try clear c93
    try clear c94
    try clear c95
    try clear hcz44_0
    try clear hcz51_0
    try clear hcz53_0
    try clear hcz61_0
    try clear hcz62_0
    try clear hcz71_0
    try clear hcz79_0
    try clear hcz84_0
    try clear hcz91_0
    try clear hcz96_0
    try clear hfz44_0
    try clear hfz51_0
    try clear hfz53_0
    try clear hfz61_0
    try clear hfz62_0
    try clear hfz71_0
    try clear hfz79_0
    try clear hfz84_0
    try clear hfz91_0
    try clear hfz96_0
    obtain ⟨kq, x53_24, rfl, HA, HJ24, HO_384000, HO_388000, HO_392000, HO_397000, BK369, BK370, BK383, BK387, BK391, BK396, HB⟩ := hcut
    cases kq with
    | zero => exact absurd HA.out (by simp [laws_FnExactMeetTries.j0])
    | succ kj24 =>
     have H := HA.out
     clear HA
     simp only [laws_FnExactMeetTries.j0] at H
     by_cases c98 : x53_24 = true
     ·subst c98
      have H1 : (some false) = some true := by rw [if_pos rfl] at H; exact H
      exact absurd H1 (by simp)
     ·replace c98 := Bool.eq_false_iff.mpr c98
      subst c98
      have H1 : ((laws_toTrie.f kj24 l0_0).bind fun t398 => ((laws_eqTrie.f kj24 t384 t398).bind fun t401 => (if t401 = true then ((laws_toTrie.f kj24 l1_0).bind fun t402 => ((laws_eqTrie.f kj24 t388 t402).bind fun t405 => (if t405 = true then ((laws_markTrie.f kj24 t384 1).bind fun bt406 => ((laws_markTrie.f kj24 t388 bt406.1).bind fun bt408 => (if bt408.1 < 0 then (laws_FnExactMeetTries.j1 kj24 t382 true l0_0 l1_0 t379 t392) else ((laws_eqTrie.f kj24 t392 t379).bind fun t410 => (if t410 = true then (laws_FnExactMeetTries.j1 kj24 t382 (t395 != t382) l0_0 l1_0 t379 t392) else (laws_FnExactMeetTries.j1 kj24 t382 true l0_0 l1_0 t379 t392)))))) else (some false)))) else (some false)))) = some true := by rw [if_neg (show ¬ (false = true) by decide)] at H; exact H
      clear H
      have H := H1
      clear H1
      replace H := Option.bind_eq_some_iff.mp H
      obtain ⟨t398, A990, H⟩ := H
      replace H : ((laws_eqTrie.f kj24 t384 t398).bind fun t401 => (if t401 = true then ((laws_toTrie.f kj24 l1_0).bind fun t402 => ((laws_eqTrie.f kj24 t388 t402).bind fun t405 => (if t405 = true then ((laws_markTrie.f kj24 t384 1).bind fun bt406 => ((laws_markTrie.f kj24 t388 bt406.1).bind fun bt408 => (if bt408.1 < 0 then (laws_FnExactMeetTries.j1 kj24 t382 true l0_0 l1_0 t379 t392) else ((laws_eqTrie.f kj24 t392 t379).bind fun t410 => (if t410 = true then (laws_FnExactMeetTries.j1 kj24 t382 (t395 != t382) l0_0 l1_0 t379 t392) else (laws_FnExactMeetTries.j1 kj24 t382 true l0_0 l1_0 t379 t392)))))) else (some false)))) else (some false))) = some true := H
      have A99 := Aside0.mk A990
      clear A990
      replace H := Option.bind_eq_some_iff.mp H
      obtain ⟨t401, A1000, H⟩ := H
      replace H : (if t401 = true then ((laws_toTrie.f kj24 l1_0).bind fun t402 => ((laws_eqTrie.f kj24 t388 t402).bind fun t405 => (if t405 = true then ((laws_markTrie.f kj24 t384 1).bind fun bt406 => ((laws_markTrie.f kj24 t388 bt406.1).bind fun bt408 => (if bt408.1 < 0 then (laws_FnExactMeetTries.j1 kj24 t382 true l0_0 l1_0 t379 t392) else ((laws_eqTrie.f kj24 t392 t379).bind fun t410 => (if t410 = true then (laws_FnExactMeetTries.j1 kj24 t382 (t395 != t382) l0_0 l1_0 t379 t392) else (laws_FnExactMeetTries.j1 kj24 t382 true l0_0 l1_0 t379 t392)))))) else (some false)))) else (some false)) = some true := H
      have A100 := Aside0.mk A1000
      clear A1000
      by_cases c101 : t401 = true
      ·subst c101
       have H1 : ((laws_toTrie.f kj24 l1_0).bind fun t402 => ((laws_eqTrie.f kj24 t388 t402).bind fun t405 => (if t405 = true then ((laws_markTrie.f kj24 t384 1).bind fun bt406 => ((laws_markTrie.f kj24 t388 bt406.1).bind fun bt408 => (if bt408.1 < 0 then (laws_FnExactMeetTries.j1 kj24 t382 true l0_0 l1_0 t379 t392) else ((laws_eqTrie.f kj24 t392 t379).bind fun t410 => (if t410 = true then (laws_FnExactMeetTries.j1 kj24 t382 (t395 != t382) l0_0 l1_0 t379 t392) else (laws_FnExactMeetTries.j1 kj24 t382 true l0_0 l1_0 t379 t392)))))) else (some false)))) = some true := by rw [if_pos rfl] at H; exact H
       clear H
       have H := H1
       clear H1
       replace H := Option.bind_eq_some_iff.mp H
       obtain ⟨t402, A1020, H⟩ := H
       replace H : ((laws_eqTrie.f kj24 t388 t402).bind fun t405 => (if t405 = true then ((laws_markTrie.f kj24 t384 1).bind fun bt406 => ((laws_markTrie.f kj24 t388 bt406.1).bind fun bt408 => (if bt408.1 < 0 then (laws_FnExactMeetTries.j1 kj24 t382 true l0_0 l1_0 t379 t392) else ((laws_eqTrie.f kj24 t392 t379).bind fun t410 => (if t410 = true then (laws_FnExactMeetTries.j1 kj24 t382 (t395 != t382) l0_0 l1_0 t379 t392) else (laws_FnExactMeetTries.j1 kj24 t382 true l0_0 l1_0 t379 t392)))))) else (some false))) = some true := H
       have A102 := Aside0.mk A1020
       clear A1020
       replace H := Option.bind_eq_some_iff.mp H
       obtain ⟨t405, A1030, H⟩ := H
       replace H : (if t405 = true then ((laws_markTrie.f kj24 t384 1).bind fun bt406 => ((laws_markTrie.f kj24 t388 bt406.1).bind fun bt408 => (if bt408.1 < 0 then (laws_FnExactMeetTries.j1 kj24 t382 true l0_0 l1_0 t379 t392) else ((laws_eqTrie.f kj24 t392 t379).bind fun t410 => (if t410 = true then (laws_FnExactMeetTries.j1 kj24 t382 (t395 != t382) l0_0 l1_0 t379 t392) else (laws_FnExactMeetTries.j1 kj24 t382 true l0_0 l1_0 t379 t392)))))) else (some false)) = some true := H
       have A103 := Aside0.mk A1030
       clear A1030
       by_cases c104 : t405 = true
       ·subst c104
        have H1 : ((laws_markTrie.f kj24 t384 1).bind fun bt406 => ((laws_markTrie.f kj24 t388 bt406.1).bind fun bt408 => (if bt408.1 < 0 then (laws_FnExactMeetTries.j1 kj24 t382 true l0_0 l1_0 t379 t392) else ((laws_eqTrie.f kj24 t392 t379).bind fun t410 => (if t410 = true then (laws_FnExactMeetTries.j1 kj24 t382 (t395 != t382) l0_0 l1_0 t379 t392) else (laws_FnExactMeetTries.j1 kj24 t382 true l0_0 l1_0 t379 t392)))))) = some true := by rw [if_pos rfl] at H; exact H
        clear H
        have H := H1
        clear H1
        replace H := Option.bind_eq_some_iff.mp H
        obtain ⟨⟨t406, t407⟩, A1050, H⟩ := H
        replace H : ((laws_markTrie.f kj24 t388 t406).bind fun bt408 => (if bt408.1 < 0 then (laws_FnExactMeetTries.j1 kj24 t382 true l0_0 l1_0 t379 t392) else ((laws_eqTrie.f kj24 t392 t379).bind fun t410 => (if t410 = true then (laws_FnExactMeetTries.j1 kj24 t382 (t395 != t382) l0_0 l1_0 t379 t392) else (laws_FnExactMeetTries.j1 kj24 t382 true l0_0 l1_0 t379 t392))))) = some true := H
        have A105 := Aside0.mk A1050
        clear A1050
        replace H := Option.bind_eq_some_iff.mp H
        obtain ⟨⟨t408, t409⟩, A1060, H⟩ := H
        replace H : (if t408 < 0 then (laws_FnExactMeetTries.j1 kj24 t382 true l0_0 l1_0 t379 t392) else ((laws_eqTrie.f kj24 t392 t379).bind fun t410 => (if t410 = true then (laws_FnExactMeetTries.j1 kj24 t382 (t395 != t382) l0_0 l1_0 t379 t392) else (laws_FnExactMeetTries.j1 kj24 t382 true l0_0 l1_0 t379 t392)))) = some true := H
        have A106 := Aside0.mk A1060
        clear A1060
        have HC107 := Aside0.mk H
        clear H
        try go_wp2
        have n0_ := Aside0.mk (Kd.R_drew HO_384000.out)
        have n1_ := Aside0.mk (Kd.R_drew HO_388000.out)
        have n2_ := Aside0.mk (Kd.R_drew HO_392000.out)
        have n3_ := Aside0.mk (Kd.R_drew HO_397000.out)
        have n4_ := Aside0.mk (blk_drew BK369.out)
        have n5_ := Aside0.mk (blk_drew BK370.out)
        have n6_ := Aside0.mk (blk_drew BK383.out)
        have n7_ := Aside0.mk (blk_drew BK387.out)
        have n8_ := Aside0.mk (blk_drew BK391.out)
        have n9_ := Aside0.mk (blk_drew BK396.out)
        have n10_ := Aside0.mk (below_drew1 HB.out)
        revert n0_ n1_ n2_ n3_ n4_ n5_ n6_ n7_ n8_ n9_ n10_
        clear HO_384000 HO_388000 HO_392000 HO_397000 BK369 BK370 BK383 BK387 BK391 BK396 HB
        intro HO_384000 HO_388000 HO_392000 HO_397000 BK369 BK370 BK383 BK387 BK391 BK396 HB
        refine start_ (n := 5) (S := fun w' => w'.cell? ⟨gb387, 0, none⟩ = some (.slice Ao47 t384.length co47) ∧ w'.cell? ⟨gb369, 0, none⟩ = some (.slice A0_0 l0_0.length c0_0)) (ds := []) #[false, false, false, false, false] (by kernel_rfl) rfl rfl ⟨(blk_cell BK387.out 0).trans rfl, (blk_cell BK369.out 0).trans rfl⟩ (fun hHeld => ?_)
        generalize wc.drew = w108 at HO_384000 HO_388000 HO_392000 HO_397000 BK369 BK370 BK383 BK387 BK391 BK396 HB hHeld ⊢
        refine take_ (i := 0) (N := some 54) (v := ?_) (a' := ?_) #[true, false, false, false, false] rfl rfl (by kernel_rfl) (fun _ _ _ h => h) (Or.inl ⟨by rfl, ?_⟩) hHeld ?_ ?_
        rotate_left
        ·rintro w' ⟨s0, s1⟩
         go_simp
         with_reducible rfl
        rotate_left
        ·simp only [Act.put, List.setIfInBounds_toArray, List.set_cons_zero, List.set_cons_succ, i64_w, i32_w]
         rfl
        refine take_ (i := 1) (N := some 55) (v := ?_) (a' := ?_) #[true, true, false, false, false] rfl rfl (by kernel_rfl) (fun _ _ _ h => h) (Or.inl ⟨by rfl, ?_⟩) hHeld ?_ ?_
        rotate_left
        ·rintro w' ⟨s0, s1⟩
         go_simp
         with_reducible rfl
        rotate_left
        ·simp only [Act.put, List.setIfInBounds_toArray, List.set_cons_zero, List.set_cons_succ, i64_w, i32_w]
         rfl
        refine one_ (i := 2) (N := some 56) #[true, true, true, false, false] rfl rfl (by kernel_rfl) (by decide) (fun K hK => ?_)
        refine goes_ Try.func14 (by kernel_rfl) rfl #[.agg #[.slice A0_0 l0_0.length c0_0]] (by rfl) rfl rfl (by (try simp only [List.map_toArray, List.map_cons, List.map_nil]); first | done | rfl | (simp only [List.length_drop, List.length_take]; rfl)) ?_
        with_reducible refine (laws_toTrie.calls kj24 _ _ l0_0 t398 _ ?side1 ?side2 A99.out).mono ?_
        (case side1 => exact (Kd.C_below HR0_0.out HB.out))
        (case side2 => exact HC0_0.out)
        rintro e w109 ⟨v399, rfl, ho0, hb⟩
        refine ⟨_, rfl, ?_⟩
        have n0_ := Aside0.mk (Kd.R_elder' HO_384000.out (Kd.R_base ho0) hb)
        have n1_ := Aside0.mk (Kd.R_elder' HO_388000.out (Kd.R_base ho0) hb)
        have n2_ := Aside0.mk (Kd.R_elder' HO_392000.out (Kd.R_base ho0) hb)
        have n3_ := Aside0.mk (Kd.R_elder' HO_397000.out (Kd.R_base ho0) hb)
        have n4_ := Aside0.mk (Kd.R_lower (Kd.R_new' (Kd.R_new' (Kd.R_new' (Kd.R_new' ho0 (Kd.R_lt HO_384000.out)) (Kd.R_lt HO_388000.out)) (Kd.R_lt HO_392000.out)) (Kd.R_lt HO_397000.out)) (below_size HB.out))
        have n5_ := Aside0.mk (blk_below BK369.out hb)
        have n6_ := Aside0.mk (blk_below BK370.out hb)
        have n7_ := Aside0.mk (blk_below BK383.out hb)
        have n8_ := Aside0.mk (blk_below BK387.out hb)
        have n9_ := Aside0.mk (blk_below BK391.out hb)
        have n10_ := Aside0.mk (blk_below BK396.out hb)
        have n11_ := Aside0.mk (below_step HB.out hb)
        revert n0_ n1_ n2_ n3_ n4_ n5_ n6_ n7_ n8_ n9_ n10_ n11_
        clear HO_384000 HO_388000 HO_392000 HO_397000 BK369 BK370 BK383 BK387 BK391 BK396 HB
        intro HO_384000 HO_388000 HO_392000 HO_397000 HO400 BK369 BK370 BK383 BK387 BK391 BK396 HB
        (try clear hb)
        (try clear hb2)
        (try clear hk)
        (try clear hi)
        (try clear ho0)
        obtain ⟨Ao110, co110, eo110⟩ := Kd.R_slice HO400.out
        (first | subst eo110 | (injection eo110 with f1_ f2_ f3_; have f4_ := f1_.symm; have f5_ := f3_.symm; clear f1_ f2_ f3_; subst f4_; subst f5_))
        refine hK.out _ _ ⟨(blk_cell BK387.out 0).trans rfl, (blk_cell BK369.out 0).trans rfl⟩ (fun hHeld => ?_)
        clear hK K
        refine norm_ (a' := ?_) ?_ ?_
        rotate_left
        ·show Act.put _ (some 56) _ = _
         simp only [Act.put, List.setIfInBounds_toArray, List.set_cons_zero, List.set_cons_succ, i64_w, i32_w]
         rfl
        refine one_ (i := 3) (N := some 57) #[true, true, true, true, false] rfl rfl (by kernel_rfl) (by decide) (fun K hK => ?_)
        refine goes_ Try.func9 (by kernel_rfl) rfl #[.agg #[.slice Ao47 t384.length co47], .agg #[.slice Ao110 t398.length co110]] (by rfl) rfl rfl (by (try simp only [List.map_toArray, List.map_cons, List.map_nil]); first | done | rfl | (simp only [List.length_drop, List.length_take]; rfl)) ?_
        with_reducible refine (laws_eqTrie.calls kj24 _ _ t384 _ _ t398 true _ ?side1 ?side2 ?side3 ?side4 A100.out).mono ?_
        (case side1 => exact (Kd.R_reads' HO_388000.out).2.2)
        (case side2 => exact (Kd.R_reads' HO_388000.out).2.1)
        (case side3 => exact (Kd.R_reads' HO400.out).2.2)
        (case side4 => exact (Kd.R_reads' HO400.out).2.1)
        rintro e w111 ⟨rfl, hb⟩
        refine ⟨_, rfl, ?_⟩
        have n0_ := Aside0.mk (Kd.R_below HO_384000.out hb)
        have n1_ := Aside0.mk (Kd.R_below HO_388000.out hb)
        have n2_ := Aside0.mk (Kd.R_below HO_392000.out hb)
        have n3_ := Aside0.mk (Kd.R_below HO_397000.out hb)
        have n4_ := Aside0.mk (Kd.R_below HO400.out hb)
        have n5_ := Aside0.mk (blk_below BK369.out hb)
        have n6_ := Aside0.mk (blk_below BK370.out hb)
        have n7_ := Aside0.mk (blk_below BK383.out hb)
        have n8_ := Aside0.mk (blk_below BK387.out hb)
        have n9_ := Aside0.mk (blk_below BK391.out hb)
        have n10_ := Aside0.mk (blk_below BK396.out hb)
        have n11_ := Aside0.mk (below_step HB.out hb)
        revert n0_ n1_ n2_ n3_ n4_ n5_ n6_ n7_ n8_ n9_ n10_ n11_
        clear HO_384000 HO_388000 HO_392000 HO_397000 HO400 BK369 BK370 BK383 BK387 BK391 BK396 HB
        intro HO_384000 HO_388000 HO_392000 HO_397000 HO400 BK369 BK370 BK383 BK387 BK391 BK396 HB
        (try clear hb)
        (try clear hb2)
        (try clear hk)
        (try clear hi)
        refine hK.out _ _ ⟨(blk_cell BK387.out 0).trans rfl, (blk_cell BK369.out 0).trans rfl⟩ (fun hHeld => ?_)
        clear hK K
        refine norm_ (a' := ?_) ?_ ?_
        rotate_left
        ·show Act.put _ (some 57) _ = _
         simp only [Act.put, List.setIfInBounds_toArray, List.set_cons_zero, List.set_cons_succ, i64_w, i32_w]
         rfl
        refine pure_ (i := 4) (N := some 58) (v := ?_) (a' := ?_) #[true, true, true, true, true] rfl rfl (by kernel_rfl) (fun _ _ _ h => h) (Or.inl ⟨by rfl, ?_⟩) ?_ ?_
        rotate_left
        ·intro w'
         go_simp
         with_reducible rfl
        rotate_left
        ·simp only [Act.put, List.setIfInBounds_toArray, List.set_cons_zero, List.set_cons_succ, i64_w, i32_w]
         rfl
        refine done_ (by kernel_rfl) ?_
        try go_wp2
        have n0_ := Aside0.mk (Kd.R_drew HO_384000.out)
        have n1_ := Aside0.mk (Kd.R_drew HO_388000.out)
        have n2_ := Aside0.mk (Kd.R_drew HO_392000.out)
        have n3_ := Aside0.mk (Kd.R_drew HO_397000.out)
        have n4_ := Aside0.mk (Kd.R_drew HO400.out)
        have n5_ := Aside0.mk (blk_drew BK369.out)
        have n6_ := Aside0.mk (blk_drew BK370.out)
        have n7_ := Aside0.mk (blk_drew BK383.out)
        have n8_ := Aside0.mk (blk_drew BK387.out)
        have n9_ := Aside0.mk (blk_drew BK391.out)
        have n10_ := Aside0.mk (blk_drew BK396.out)
        have n11_ := Aside0.mk (below_drew1 HB.out)
        revert n0_ n1_ n2_ n3_ n4_ n5_ n6_ n7_ n8_ n9_ n10_ n11_
        clear HO_384000 HO_388000 HO_392000 HO_397000 HO400 BK369 BK370 BK383 BK387 BK391 BK396 HB
        intro HO_384000 HO_388000 HO_392000 HO_397000 HO400 BK369 BK370 BK383 BK387 BK391 BK396 HB
        refine start_ (n := 5) (S := fun w' => w'.cell? ⟨gb391, 0, none⟩ = some (.slice Ao56 t388.length co56) ∧ w'.cell? ⟨gb370, 0, none⟩ = some (.slice A1_0 l1_0.length c1_0)) (ds := []) #[false, false, false, false, false] (by kernel_rfl) rfl rfl ⟨(blk_cell BK391.out 0).trans rfl, (blk_cell BK370.out 0).trans rfl⟩ (fun hHeld => ?_)
        generalize w111.drew = w112 at HO_384000 HO_388000 HO_392000 HO_397000 HO400 BK369 BK370 BK383 BK387 BK391 BK396 HB hHeld ⊢
        refine take_ (i := 0) (N := some 59) (v := ?_) (a' := ?_) #[true, false, false, false, false] rfl rfl (by kernel_rfl) (fun _ _ _ h => h) (Or.inl ⟨by rfl, ?_⟩) hHeld ?_ ?_
        rotate_left
        ·rintro w' ⟨s0, s1⟩
         go_simp
         with_reducible rfl
        rotate_left
        ·simp only [Act.put, List.setIfInBounds_toArray, List.set_cons_zero, List.set_cons_succ, i64_w, i32_w]
         rfl
        refine take_ (i := 1) (N := some 60) (v := ?_) (a' := ?_) #[true, true, false, false, false] rfl rfl (by kernel_rfl) (fun _ _ _ h => h) (Or.inl ⟨by rfl, ?_⟩) hHeld ?_ ?_
        rotate_left
        ·rintro w' ⟨s0, s1⟩
         go_simp
         with_reducible rfl
        rotate_left
        ·simp only [Act.put, List.setIfInBounds_toArray, List.set_cons_zero, List.set_cons_succ, i64_w, i32_w]
         rfl
        refine one_ (i := 2) (N := some 61) #[true, true, true, false, false] rfl rfl (by kernel_rfl) (by decide) (fun K hK => ?_)
        refine goes_ Try.func14 (by kernel_rfl) rfl #[.agg #[.slice A1_0 l1_0.length c1_0]] (by rfl) rfl rfl (by (try simp only [List.map_toArray, List.map_cons, List.map_nil]); first | done | rfl | (simp only [List.length_drop, List.length_take]; rfl)) ?_
        with_reducible refine (laws_toTrie.calls kj24 _ _ l1_0 t402 _ ?side1 ?side2 A102.out).mono ?_
        (case side1 => exact (Kd.C_below HR1_0.out HB.out))
        (case side2 => exact HC1_0.out)
        rintro e w113 ⟨v403, rfl, ho0, hb⟩
        refine ⟨_, rfl, ?_⟩
        have n0_ := Aside0.mk (Kd.R_elder' HO_384000.out (Kd.R_base ho0) hb)
        have n1_ := Aside0.mk (Kd.R_elder' HO_388000.out (Kd.R_base ho0) hb)
        have n2_ := Aside0.mk (Kd.R_elder' HO_392000.out (Kd.R_base ho0) hb)
        have n3_ := Aside0.mk (Kd.R_elder' HO_397000.out (Kd.R_base ho0) hb)
        have n4_ := Aside0.mk (Kd.R_elder' HO400.out (Kd.R_base ho0) hb)
        have n5_ := Aside0.mk (Kd.R_lower (Kd.R_new' (Kd.R_new' (Kd.R_new' (Kd.R_new' (Kd.R_new' ho0 (Kd.R_lt HO_384000.out)) (Kd.R_lt HO_388000.out)) (Kd.R_lt HO_392000.out)) (Kd.R_lt HO_397000.out)) (Kd.R_lt HO400.out)) (below_size HB.out))
        have n6_ := Aside0.mk (blk_below BK369.out hb)
        have n7_ := Aside0.mk (blk_below BK370.out hb)
        have n8_ := Aside0.mk (blk_below BK383.out hb)
        have n9_ := Aside0.mk (blk_below BK387.out hb)
        have n10_ := Aside0.mk (blk_below BK391.out hb)
        have n11_ := Aside0.mk (blk_below BK396.out hb)
        have n12_ := Aside0.mk (below_step HB.out hb)
        revert n0_ n1_ n2_ n3_ n4_ n5_ n6_ n7_ n8_ n9_ n10_ n11_ n12_
        clear HO_384000 HO_388000 HO_392000 HO_397000 HO400 BK369 BK370 BK383 BK387 BK391 BK396 HB
        intro HO_384000 HO_388000 HO_392000 HO_397000 HO400 HO404 BK369 BK370 BK383 BK387 BK391 BK396 HB
        (try clear hb)
        (try clear hb2)
        (try clear hk)
        (try clear hi)
        (try clear ho0)
        obtain ⟨Ao114, co114, eo114⟩ := Kd.R_slice HO404.out
        (first | subst eo114 | (injection eo114 with f1_ f2_ f3_; have f4_ := f1_.symm; have f5_ := f3_.symm; clear f1_ f2_ f3_; subst f4_; subst f5_))
        refine hK.out _ _ ⟨(blk_cell BK391.out 0).trans rfl, (blk_cell BK370.out 0).trans rfl⟩ (fun hHeld => ?_)
        clear hK K
        refine norm_ (a' := ?_) ?_ ?_
        rotate_left
        ·show Act.put _ (some 61) _ = _
         simp only [Act.put, List.setIfInBounds_toArray, List.set_cons_zero, List.set_cons_succ, i64_w, i32_w]
         rfl
        refine one_ (i := 3) (N := some 62) #[true, true, true, true, false] rfl rfl (by kernel_rfl) (by decide) (fun K hK => ?_)
        refine goes_ Try.func9 (by kernel_rfl) rfl #[.agg #[.slice Ao56 t388.length co56], .agg #[.slice Ao114 t402.length co114]] (by rfl) rfl rfl (by (try simp only [List.map_toArray, List.map_cons, List.map_nil]); first | done | rfl | (simp only [List.length_drop, List.length_take]; rfl)) ?_
        with_reducible refine (laws_eqTrie.calls kj24 _ _ t388 _ _ t402 true _ ?side1 ?side2 ?side3 ?side4 A103.out).mono ?_
        (case side1 => exact (Kd.R_reads' HO_392000.out).2.2)
        (case side2 => exact (Kd.R_reads' HO_392000.out).2.1)
        (case side3 => exact (Kd.R_reads' HO404.out).2.2)
        (case side4 => exact (Kd.R_reads' HO404.out).2.1)
        rintro e w115 ⟨rfl, hb⟩
        refine ⟨_, rfl, ?_⟩
        have n0_ := Aside0.mk (Kd.R_below HO_384000.out hb)
        have n1_ := Aside0.mk (Kd.R_below HO_388000.out hb)
        have n2_ := Aside0.mk (Kd.R_below HO_392000.out hb)
        have n3_ := Aside0.mk (Kd.R_below HO_397000.out hb)
        have n4_ := Aside0.mk (Kd.R_below HO400.out hb)
        have n5_ := Aside0.mk (Kd.R_below HO404.out hb)
        have n6_ := Aside0.mk (blk_below BK369.out hb)
        have n7_ := Aside0.mk (blk_below BK370.out hb)
        have n8_ := Aside0.mk (blk_below BK383.out hb)
        have n9_ := Aside0.mk (blk_below BK387.out hb)
        have n10_ := Aside0.mk (blk_below BK391.out hb)
        have n11_ := Aside0.mk (blk_below BK396.out hb)
        have n12_ := Aside0.mk (below_step HB.out hb)
        revert n0_ n1_ n2_ n3_ n4_ n5_ n6_ n7_ n8_ n9_ n10_ n11_ n12_
        clear HO_384000 HO_388000 HO_392000 HO_397000 HO400 HO404 BK369 BK370 BK383 BK387 BK391 BK396 HB
        intro HO_384000 HO_388000 HO_392000 HO_397000 HO400 HO404 BK369 BK370 BK383 BK387 BK391 BK396 HB
        (try clear hb)
        (try clear hb2)
        (try clear hk)
        (try clear hi)
        refine hK.out _ _ ⟨(blk_cell BK391.out 0).trans rfl, (blk_cell BK370.out 0).trans rfl⟩ (fun hHeld => ?_)
        clear hK K
        refine norm_ (a' := ?_) ?_ ?_
        rotate_left
        ·show Act.put _ (some 62) _ = _
         simp only [Act.put, List.setIfInBounds_toArray, List.set_cons_zero, List.set_cons_succ, i64_w, i32_w]
         rfl
        refine pure_ (i := 4) (N := some 63) (v := ?_) (a' := ?_) #[true, true, true, true, true] rfl rfl (by kernel_rfl) (fun _ _ _ h => h) (Or.inl ⟨by rfl, ?_⟩) ?_ ?_
        rotate_left
        ·intro w'
         go_simp
         with_reducible rfl
        rotate_left
        ·simp only [Act.put, List.setIfInBounds_toArray, List.set_cons_zero, List.set_cons_succ, i64_w, i32_w]
         rfl
        refine done_ (by kernel_rfl) ?_
        have hnb116 := NB387_369.out
        have hnc116 := NB369_387.out
        have hnb117 := NB387_370.out
        have hnc117 := NB370_387.out
        have hnb118 := NB387_383.out
        have hnc118 := NB383_387.out
        have hnb119 := NB387_391.out
        have hnc119 := NB391_387.out
        have hnb120 := NB387_396.out
        have hnc120 := NB396_387.out
        have hcz121_0 : w115.cell? ⟨gb387, 0, none⟩ = some (.slice Ao47 t384.length co47) := (blk_cell BK387.out 0).trans rfl
        have hfz121_0 := blk_frozen BK387.out 0
        go_upto_region 21 with (first | ((with_reducible refine gate_callee (f := 10) rfl ?_); refine goesL_ (some 66) rfl rfl Try.func10 (by kernel_rfl) rfl #[.agg #[.slice Ao47 t384.length co47], .int .i64 1] rfl (by (try simp only [List.map_toArray, List.map_cons, List.map_nil]); first | done | rfl | (simp only [List.length_drop, List.length_take]; rfl)) ?_; (with_reducible refine (laws_markTrie.calls kj24 (fun k_ => some k_ = (.slice Ao47 t384.length co47 : Value).ownBlock) (.slice Ao47 t384.length co47) t384 1 t406 t407 w _ ?side1 ?side2 A105.out).mono ?_); (case side1 => repeat (first | (with_reducible first | exact HB.out | apply below_alloc | apply pw_below_drewN | apply below_drew1 | refine below_set ?_ GE369.out | refine below_set ?_ GE370.out | refine below_set ?_ GE383.out | refine below_set ?_ GE387.out | refine below_set ?_ GE391.out | refine below_set ?_ GE396.out) | exact HB.out)); (case side2 => exact Kd.R_tight rfl HO_388000.out); rintro e w122 ⟨rfl, hy0, hb, hkp⟩; refine ⟨_, rfl, ?_⟩; have n0_ := Aside0.mk (Kd.R_mono (ok' := fun k_ => some k_ ≠ (.slice Ao47 t384.length co47 : Value).ownBlock ∧ some k_ ≠ (.slice Ao56 t388.length co56 : Value).ownBlock ∧ some k_ ≠ (.slice Ao65 t392.length co65 : Value).ownBlock ∧ some k_ ≠ (.slice Ao110 t398.length co110 : Value).ownBlock ∧ some k_ ≠ (.slice Ao114 t402.length co114 : Value).ownBlock) (Kd.R_keptB (HO_384000.out) hkp (fun k_ hk_ hs_ => (hk_.1.1.1) hs_)) (fun k_ hk_ => ⟨hk_.1.1.1.1, hk_.1.1.1.2.1, hk_.1.1.1.2.2, hk_.1.1.2, hk_.1.2⟩)); have n1_ := Aside0.mk (Kd.R_reok rfl hy0 (fun k_ e_ => HO_388000.out.1 k_ e_)); have n2_ := Aside0.mk (Kd.R_mono (ok' := fun k_ => some k_ ≠ (.slice Ao41 t379.length co41 : Value).ownBlock ∧ some k_ ≠ (.slice Ao47 t384.length co47 : Value).ownBlock ∧ some k_ ≠ (.slice Ao65 t392.length co65 : Value).ownBlock ∧ some k_ ≠ (.slice Ao110 t398.length co110 : Value).ownBlock ∧ some k_ ≠ (.slice Ao114 t402.length co114 : Value).ownBlock) (Kd.R_keptB (HO_392000.out) hkp (fun k_ hk_ hs_ => (hk_.1.1.2.1) hs_)) (fun k_ hk_ => ⟨hk_.1.1.1.1, hk_.1.1.1.2.1, hk_.1.1.1.2.2, hk_.1.1.2, hk_.1.2⟩)); have n3_ := Aside0.mk (Kd.R_mono (ok' := fun k_ => some k_ ≠ (.slice Ao41 t379.length co41 : Value).ownBlock ∧ some k_ ≠ (.slice Ao47 t384.length co47 : Value).ownBlock ∧ some k_ ≠ (.slice Ao56 t388.length co56 : Value).ownBlock ∧ some k_ ≠ (.slice Ao110 t398.length co110 : Value).ownBlock ∧ some k_ ≠ (.slice Ao114 t402.length co114 : Value).ownBlock) (Kd.R_keptB (HO_397000.out) hkp (fun k_ hk_ hs_ => (hk_.1.1.2.1) hs_)) (fun k_ hk_ => ⟨hk_.1.1.1.1, hk_.1.1.1.2.1, hk_.1.1.1.2.2, hk_.1.1.2, hk_.1.2⟩)); have n4_ := Aside0.mk (blk_kept (by (with_reducible repeat (first | refine blk_drewN ?_ _ | refine blk_drew ?_ | refine blk_alloc ?_ _)); exact BK369.out) hkp (fun hs_ => (fun e_ => (Kd.R_ne HO_388000.out BK369.out (by decide)) e_) hs_)); have n5_ := Aside0.mk (blk_kept (by (with_reducible repeat (first | refine blk_drewN ?_ _ | refine blk_drew ?_ | refine blk_alloc ?_ _)); exact BK370.out) hkp (fun hs_ => (fun e_ => (Kd.R_ne HO_388000.out BK370.out (by decide)) e_) hs_)); have n6_ := Aside0.mk (blk_kept (by (with_reducible repeat (first | refine blk_drewN ?_ _ | refine blk_drew ?_ | refine blk_alloc ?_ _)); exact BK383.out) hkp (fun hs_ => (fun e_ => (Kd.R_ne HO_388000.out BK383.out (by decide)) e_) hs_)); have n7_ := Aside0.mk (blk_kept (by (with_reducible repeat (first | refine blk_drewN ?_ _ | refine blk_drew ?_ | refine blk_alloc ?_ _)); exact BK387.out) hkp (fun hs_ => (fun e_ => (Kd.R_ne HO_388000.out BK387.out (by decide)) e_) hs_)); have n8_ := Aside0.mk (blk_kept (by (with_reducible repeat (first | refine blk_drewN ?_ _ | refine blk_drew ?_ | refine blk_alloc ?_ _)); exact BK391.out) hkp (fun hs_ => (fun e_ => (Kd.R_ne HO_388000.out BK391.out (by decide)) e_) hs_)); have n9_ := Aside0.mk (blk_kept (by (with_reducible repeat (first | refine blk_drewN ?_ _ | refine blk_drew ?_ | refine blk_alloc ?_ _)); exact BK396.out) hkp (fun hs_ => (fun e_ => (Kd.R_ne HO_388000.out BK396.out (by decide)) e_) hs_)); have n10_ := Aside0.mk (Kd.R_mono (ok' := fun k_ => some k_ ≠ (.slice Ao41 t379.length co41 : Value).ownBlock ∧ some k_ ≠ (.slice Ao47 t384.length co47 : Value).ownBlock ∧ some k_ ≠ (.slice Ao56 t388.length co56 : Value).ownBlock ∧ some k_ ≠ (.slice Ao65 t392.length co65 : Value).ownBlock ∧ some k_ ≠ (.slice Ao114 t402.length co114 : Value).ownBlock) (Kd.R_keptB (HO400.out) hkp (fun k_ hk_ hs_ => (hk_.1.1.1.2) hs_)) (fun k_ hk_ => ⟨hk_.1.1.1.1.1.2, hk_.1.1.1.1.2, hk_.1.1.1.2, hk_.1.1.2, hk_.1.2⟩)); have n11_ := Aside0.mk (Kd.R_mono (ok' := fun k_ => some k_ ≠ (.slice Ao41 t379.length co41 : Value).ownBlock ∧ some k_ ≠ (.slice Ao47 t384.length co47 : Value).ownBlock ∧ some k_ ≠ (.slice Ao56 t388.length co56 : Value).ownBlock ∧ some k_ ≠ (.slice Ao65 t392.length co65 : Value).ownBlock ∧ some k_ ≠ (.slice Ao110 t398.length co110 : Value).ownBlock) (Kd.R_keptB (HO404.out) hkp (fun k_ hk_ hs_ => (hk_.1.1.1.2) hs_)) (fun k_ hk_ => ⟨hk_.1.1.1.1.1.2, hk_.1.1.1.1.2, hk_.1.1.1.2, hk_.1.1.2, hk_.1.2⟩)); have n12_ := Aside0.mk (hb); clear HO_384000; clear HO_388000; clear HO_392000; clear HO_397000; clear BK369; clear BK370; clear BK383; clear BK387; clear BK391; clear BK396; clear HO400; clear HO404; clear HB; have HO_384000 := n0_; have HO_388000 := n1_; have HO_392000 := n2_; have HO_397000 := n3_; have BK369 := n4_; have BK370 := n5_; have BK383 := n6_; have BK387 := n7_; have BK391 := n8_; have BK396 := n9_; have HO400 := n10_; have HO404 := n11_; have HB := n12_; clear n0_ n1_ n2_ n3_ n4_ n5_ n6_ n7_ n8_ n9_ n10_ n11_ n12_; (try clear hb); (try clear hkp); (try clear hy0); have hnb123 := NB391_369.out; have hnc123 := NB369_391.out; have hnb124 := NB391_370.out; have hnc124 := NB370_391.out; have hnb125 := NB391_383.out; have hnc125 := NB383_391.out; have hnb126 := NB391_396.out; have hnc126 := NB396_391.out; have hcz127_0 : w122.cell? ⟨gb391, 0, none⟩ = some (.slice Ao56 t388.length co56) := (blk_cell BK391.out 0).trans rfl; have hfz127_0 := blk_frozen BK391.out 0) | ((with_reducible refine gate_callee (f := 10) rfl ?_); refine goesL_ (some 69) rfl rfl Try.func10 (by kernel_rfl) rfl #[.agg #[.slice Ao56 t388.length co56], .int .i64 t406] rfl (by (try simp only [List.map_toArray, List.map_cons, List.map_nil]); first | done | rfl | (simp only [List.length_drop, List.length_take]; rfl)) ?_; (with_reducible refine (laws_markTrie.calls kj24 (fun k_ => some k_ = (.slice Ao56 t388.length co56 : Value).ownBlock) (.slice Ao56 t388.length co56) t388 t406 t408 t409 w _ ?side1 ?side2 A106.out).mono ?_); (case side1 => repeat (first | (with_reducible first | exact HB.out | apply below_alloc | apply pw_below_drewN | apply below_drew1 | refine below_set ?_ GE369.out | refine below_set ?_ GE370.out | refine below_set ?_ GE383.out | refine below_set ?_ GE387.out | refine below_set ?_ GE391.out | refine below_set ?_ GE396.out) | exact HB.out)); (case side2 => exact Kd.R_tight rfl HO_392000.out); rintro e w128 ⟨rfl, hy0, hb, hkp⟩; refine ⟨_, rfl, ?_⟩; have n0_ := Aside0.mk (Kd.R_mono (ok' := fun k_ => some k_ ≠ (.slice Ao47 t384.length co47 : Value).ownBlock ∧ some k_ ≠ (.slice Ao56 t388.length co56 : Value).ownBlock ∧ some k_ ≠ (.slice Ao65 t392.length co65 : Value).ownBlock ∧ some k_ ≠ (.slice Ao110 t398.length co110 : Value).ownBlock ∧ some k_ ≠ (.slice Ao114 t402.length co114 : Value).ownBlock) (Kd.R_keptB (HO_384000.out) hkp (fun k_ hk_ hs_ => (hk_.2.1) hs_)) (fun k_ hk_ => ⟨hk_.1.1, hk_.1.2.1, hk_.1.2.2.1, hk_.1.2.2.2.1, hk_.1.2.2.2.2⟩)); have n1_ := Aside0.mk (Kd.R_mono (ok' := fun k_ => some k_ ≠ (.slice Ao41 t379.length co41 : Value).ownBlock ∧ some k_ ≠ (.slice Ao56 t388.length co56 : Value).ownBlock ∧ some k_ ≠ (.slice Ao65 t392.length co65 : Value).ownBlock ∧ some k_ ≠ (.slice Ao110 t398.length co110 : Value).ownBlock ∧ some k_ ≠ (.slice Ao114 t402.length co114 : Value).ownBlock) (Kd.R_keptB (HO_388000.out) hkp (fun k_ hk_ hs_ => (hk_.1.1.2.1) hs_)) (fun k_ hk_ => ⟨hk_.1.1.1.1, hk_.1.1.1.2.1, hk_.1.1.1.2.2, hk_.1.1.2, hk_.1.2⟩)); have n2_ := Aside0.mk (Kd.R_reok rfl hy0 (fun k_ e_ => HO_392000.out.1 k_ e_)); have n3_ := Aside0.mk (Kd.R_mono (ok' := fun k_ => some k_ ≠ (.slice Ao41 t379.length co41 : Value).ownBlock ∧ some k_ ≠ (.slice Ao47 t384.length co47 : Value).ownBlock ∧ some k_ ≠ (.slice Ao56 t388.length co56 : Value).ownBlock ∧ some k_ ≠ (.slice Ao110 t398.length co110 : Value).ownBlock ∧ some k_ ≠ (.slice Ao114 t402.length co114 : Value).ownBlock) (Kd.R_keptB (HO_397000.out) hkp (fun k_ hk_ hs_ => (hk_.2.2.1) hs_)) (fun k_ hk_ => ⟨hk_.1.1, hk_.1.2.1, hk_.1.2.2.1, hk_.1.2.2.2.1, hk_.1.2.2.2.2⟩)); have n4_ := Aside0.mk (blk_kept (by (with_reducible repeat (first | refine blk_drewN ?_ _ | refine blk_drew ?_ | refine blk_alloc ?_ _)); exact BK369.out) hkp (fun hs_ => (fun e_ => (Kd.R_ne HO_392000.out BK369.out (by decide)) e_) hs_)); have n5_ := Aside0.mk (blk_kept (by (with_reducible repeat (first | refine blk_drewN ?_ _ | refine blk_drew ?_ | refine blk_alloc ?_ _)); exact BK370.out) hkp (fun hs_ => (fun e_ => (Kd.R_ne HO_392000.out BK370.out (by decide)) e_) hs_)); have n6_ := Aside0.mk (blk_kept (by (with_reducible repeat (first | refine blk_drewN ?_ _ | refine blk_drew ?_ | refine blk_alloc ?_ _)); exact BK383.out) hkp (fun hs_ => (fun e_ => (Kd.R_ne HO_392000.out BK383.out (by decide)) e_) hs_)); have n7_ := Aside0.mk (blk_kept (by (with_reducible repeat (first | refine blk_drewN ?_ _ | refine blk_drew ?_ | refine blk_alloc ?_ _)); exact BK387.out) hkp (fun hs_ => (fun e_ => (Kd.R_ne HO_392000.out BK387.out (by decide)) e_) hs_)); have n8_ := Aside0.mk (blk_kept (by (with_reducible repeat (first | refine blk_drewN ?_ _ | refine blk_drew ?_ | refine blk_alloc ?_ _)); exact BK391.out) hkp (fun hs_ => (fun e_ => (Kd.R_ne HO_392000.out BK391.out (by decide)) e_) hs_)); have n9_ := Aside0.mk (blk_kept (by (with_reducible repeat (first | refine blk_drewN ?_ _ | refine blk_drew ?_ | refine blk_alloc ?_ _)); exact BK396.out) hkp (fun hs_ => (fun e_ => (Kd.R_ne HO_392000.out BK396.out (by decide)) e_) hs_)); have n10_ := Aside0.mk (Kd.R_mono (ok' := fun k_ => some k_ ≠ (.slice Ao41 t379.length co41 : Value).ownBlock ∧ some k_ ≠ (.slice Ao47 t384.length co47 : Value).ownBlock ∧ some k_ ≠ (.slice Ao56 t388.length co56 : Value).ownBlock ∧ some k_ ≠ (.slice Ao65 t392.length co65 : Value).ownBlock ∧ some k_ ≠ (.slice Ao114 t402.length co114 : Value).ownBlock) (Kd.R_keptB (HO400.out) hkp (fun k_ hk_ hs_ => (hk_.2.2.1) hs_)) (fun k_ hk_ => ⟨hk_.1.1, hk_.1.2.1, hk_.1.2.2.1, hk_.1.2.2.2.1, hk_.1.2.2.2.2⟩)); have n11_ := Aside0.mk (Kd.R_mono (ok' := fun k_ => some k_ ≠ (.slice Ao41 t379.length co41 : Value).ownBlock ∧ some k_ ≠ (.slice Ao47 t384.length co47 : Value).ownBlock ∧ some k_ ≠ (.slice Ao56 t388.length co56 : Value).ownBlock ∧ some k_ ≠ (.slice Ao65 t392.length co65 : Value).ownBlock ∧ some k_ ≠ (.slice Ao110 t398.length co110 : Value).ownBlock) (Kd.R_keptB (HO404.out) hkp (fun k_ hk_ hs_ => (hk_.2.2.1) hs_)) (fun k_ hk_ => ⟨hk_.1.1, hk_.1.2.1, hk_.1.2.2.1, hk_.1.2.2.2.1, hk_.1.2.2.2.2⟩)); have n12_ := Aside0.mk (hb); clear HO_384000; clear HO_388000; clear HO_392000; clear HO_397000; clear BK369; clear BK370; clear BK383; clear BK387; clear BK391; clear BK396; clear HO400; clear HO404; clear HB; have HO_384000 := n0_; have HO_388000 := n1_; have HO_392000 := n2_; have HO_397000 := n3_; have BK369 := n4_; have BK370 := n5_; have BK383 := n6_; have BK387 := n7_; have BK391 := n8_; have BK396 := n9_; have HO400 := n10_; have HO404 := n11_; have HB := n12_; clear n0_ n1_ n2_ n3_ n4_ n5_ n6_ n7_ n8_ n9_ n10_ n11_ n12_; (try clear hb); (try clear hkp); (try clear hy0)))
        (try simp only [Act.put, List.setIfInBounds_toArray, List.set_cons_zero, List.set_cons_succ])
        go_cut [82] (fun v82 wc => ∃ (kq : Nat) (x82_106 : Bool), v82 = .bool x82_106 ∧ Aside0 (laws_FnExactMeetTries.j1 kq t382 x82_106 l0_0 l1_0 t379 t392 = some true) ∧ Aside0 (kq ≤ kj24) ∧ Aside0 (Kd.R k67 67 wc w.heap.size (fun k_ => some k_ ≠ ((.slice Ao47 t384.length co47) : Value).ownBlock ∧ some k_ ≠ ((.slice Ao56 t388.length co56) : Value).ownBlock ∧ some k_ ≠ ((.slice Ao65 t392.length co65) : Value).ownBlock) (.slice Ao41 t379.length co41) t379) ∧ Aside0 (Kd.R k67 67 wc w.heap.size (fun k_ => some k_ ≠ ((.slice Ao41 t379.length co41) : Value).ownBlock ∧ some k_ ≠ ((.slice Ao56 t388.length co56) : Value).ownBlock ∧ some k_ ≠ ((.slice Ao65 t392.length co65) : Value).ownBlock) (.slice Ao47 t384.length co47) t407) ∧ Aside0 (Kd.R k67 67 wc w.heap.size (fun k_ => some k_ ≠ ((.slice Ao41 t379.length co41) : Value).ownBlock ∧ some k_ ≠ ((.slice Ao47 t384.length co47) : Value).ownBlock ∧ some k_ ≠ ((.slice Ao65 t392.length co65) : Value).ownBlock) (.slice Ao56 t388.length co56) t409) ∧ Aside0 (Kd.R k67 67 wc w.heap.size (fun k_ => some k_ ≠ ((.slice Ao41 t379.length co41) : Value).ownBlock ∧ some k_ ≠ ((.slice Ao47 t384.length co47) : Value).ownBlock ∧ some k_ ≠ ((.slice Ao56 t388.length co56) : Value).ownBlock) (.slice Ao65 t392.length co65) t392) ∧ Aside0 (wc.heap[gb369]? = some (.cells #[(.slice A0_0 l0_0.length c0_0)] 32 (0, 0))) ∧ Aside0 (wc.heap[gb370]? = some (.cells #[(.slice A1_0 l1_0.length c1_0)] 32 (0, 0))) ∧ Aside0 (wc.heap[gb383]? = some (.cells #[(.slice Ao41 t379.length co41)] 24 (0, 0))) ∧ Aside0 (wc.heap[gb387]? = some (.cells #[(.slice Ao47 t384.length co47)] 24 (0, 0))) ∧ Aside0 (wc.heap[gb391]? = some (.cells #[(.slice Ao56 t388.length co56)] 24 (0, 0))) ∧ Aside0 (wc.heap[gb396]? = some (.cells #[(.slice Ao65 t392.length co65)] 24 (0, 0))) ∧ Aside0 (Below w.heap.size w wc))
        case first =>
         have H := HC107.out
         clear HC107
         by_cases c129 : t408 < 0
         ·rw [if_pos c129] at H
          exact absurd H (by cases kj24 <;> simp [laws_FnExactMeetTries.j1])
         ·rw [if_neg c129] at H
          have c129b0 : decide (t408 < 0) = false := decide_eq_false c129
          clear c129
          (first | rw [c129b0] | (simp only [i64_w, i32_w]; rw [c129b0]) | skip)
          replace H := Option.bind_eq_some_iff.mp H
          obtain ⟨t410, A1300, H⟩ := H
          replace H : (if t410 = true then (laws_FnExactMeetTries.j1 kj24 t382 (t395 != t382) l0_0 l1_0 t379 t392) else (laws_FnExactMeetTries.j1 kj24 t382 true l0_0 l1_0 t379 t392)) = some true := H
          have A130 := Aside0.mk A1300
          clear A1300
          by_cases c131 : t410 = true
          ·subst c131
           have H1 : (laws_FnExactMeetTries.j1 kj24 t382 (t395 != t382) l0_0 l1_0 t379 t392) = some true := by rw [if_pos rfl] at H; exact H
           clear H
           have H := H1
           clear H1
           have H' := Aside0.mk H
           clear H
           have hnb132 := NB396_369.out
           have hnc132 := NB369_396.out
           have hnb133 := NB396_370.out
           have hnc133 := NB370_396.out
           have hnb134 := NB396_383.out
           have hnc134 := NB383_396.out
           have hnb135 := NB396_387.out
           have hnc135 := NB387_396.out
           have hnb136 := NB396_391.out
           have hnc136 := NB391_396.out
           have hcz137_0 : w128.cell? ⟨gb396, 0, none⟩ = some (.slice Ao65 t392.length co65) := (blk_cell BK396.out 0).trans rfl
           have hfz137_0 := blk_frozen BK396.out 0
           have hnb138 := NB383_369.out
           have hnc138 := NB369_383.out
           have hnb139 := NB383_370.out
           have hnc139 := NB370_383.out
           have hnb140 := NB383_387.out
           have hnc140 := NB387_383.out
           have hnb141 := NB383_391.out
           have hnc141 := NB391_383.out
           have hcz142_0 : w128.cell? ⟨gb383, 0, none⟩ = some (.slice Ao41 t379.length co41) := (blk_cell BK383.out 0).trans rfl
           have hfz142_0 := blk_frozen BK383.out 0
           go_wp2_with (first | (go_at_call 9; (with_reducible refine (laws_eqTrie.calls kj24 _ _ t392 _ _ t379 true _ ?side1 ?side2 ?side3 ?side4 A130.out).mono ?_); (case side1 => repeat (first | exact (Kd.R_reads' HO_397000.out).2.2 | (with_reducible refine Kd.C_alloc ?_ _) | (with_reducible refine Kd.C_drewN ?_ _) | (with_reducible refine Kd.C_drew ?_))); (case side2 => exact (Kd.R_reads' HO_397000.out).2.1); (case side3 => repeat (first | exact (Kd.R_reads' HO_384000.out).2.2 | (with_reducible refine Kd.C_alloc ?_ _) | (with_reducible refine Kd.C_drewN ?_ _) | (with_reducible refine Kd.C_drew ?_))); (case side4 => exact (Kd.R_reads' HO_384000.out).2.1); rintro e w143 ⟨rfl, hb⟩; have n0_ := Aside0.mk (Kd.R_below (by (with_reducible repeat (first | apply Kd.R_alloc | apply Kd.R_drewN | apply Kd.R_drew)); exact HO_384000.out) hb); have n1_ := Aside0.mk (Kd.R_below (by (with_reducible repeat (first | apply Kd.R_alloc | apply Kd.R_drewN | apply Kd.R_drew)); exact HO_388000.out) hb); have n2_ := Aside0.mk (Kd.R_below (by (with_reducible repeat (first | apply Kd.R_alloc | apply Kd.R_drewN | apply Kd.R_drew)); exact HO_392000.out) hb); have n3_ := Aside0.mk (Kd.R_below (by (with_reducible repeat (first | apply Kd.R_alloc | apply Kd.R_drewN | apply Kd.R_drew)); exact HO_397000.out) hb); have n4_ := Aside0.mk (Kd.R_below (by (with_reducible repeat (first | apply Kd.R_alloc | apply Kd.R_drewN | apply Kd.R_drew)); exact HO400.out) hb); have n5_ := Aside0.mk (Kd.R_below (by (with_reducible repeat (first | apply Kd.R_alloc | apply Kd.R_drewN | apply Kd.R_drew)); exact HO404.out) hb); have n6_ := Aside0.mk (blk_below (g := gb369) (o := .cells #[.slice A0_0 l0_0.length c0_0] 32 (0, 0)) (by (with_reducible repeat (first | refine blk_drewN ?_ _ | refine blk_drew ?_ | refine blk_alloc ?_ _)); exact BK369.out) hb); have n7_ := Aside0.mk (blk_below (g := gb370) (o := .cells #[.slice A1_0 l1_0.length c1_0] 32 (0, 0)) (by (with_reducible repeat (first | refine blk_drewN ?_ _ | refine blk_drew ?_ | refine blk_alloc ?_ _)); exact BK370.out) hb); have n8_ := Aside0.mk (blk_below (g := gb383) (o := .cells #[.slice Ao41 t379.length co41] 24 (0, 0)) (by (with_reducible repeat (first | refine blk_drewN ?_ _ | refine blk_drew ?_ | refine blk_alloc ?_ _)); exact BK383.out) hb); have n9_ := Aside0.mk (blk_below (g := gb387) (o := .cells #[.slice Ao47 t384.length co47] 24 (0, 0)) (by (with_reducible repeat (first | refine blk_drewN ?_ _ | refine blk_drew ?_ | refine blk_alloc ?_ _)); exact BK387.out) hb); have n10_ := Aside0.mk (blk_below (g := gb391) (o := .cells #[.slice Ao56 t388.length co56] 24 (0, 0)) (by (with_reducible repeat (first | refine blk_drewN ?_ _ | refine blk_drew ?_ | refine blk_alloc ?_ _)); exact BK391.out) hb); have n11_ := Aside0.mk (blk_below (g := gb396) (o := .cells #[.slice Ao65 t392.length co65] 24 (0, 0)) (by (with_reducible repeat (first | refine blk_drewN ?_ _ | refine blk_drew ?_ | refine blk_alloc ?_ _)); exact BK396.out) hb); have n12_ := Aside0.mk (below_step (by repeat (first | (with_reducible first | exact HB.out | apply below_alloc | apply pw_below_drewN | apply below_drew1 | refine below_set ?_ GE369.out | refine below_set ?_ GE370.out | refine below_set ?_ GE383.out | refine below_set ?_ GE387.out | refine below_set ?_ GE391.out | refine below_set ?_ GE396.out) | exact HB.out)) hb); clear HO_384000; clear HO_388000; clear HO_392000; clear HO_397000; clear HO400; clear HO404; clear BK369; clear BK370; clear BK383; clear BK387; clear BK391; clear BK396; clear HB; have HO_384000 := n0_; have HO_388000 := n1_; have HO_392000 := n2_; have HO_397000 := n3_; have HO400 := n4_; have HO404 := n5_; have BK369 := n6_; have BK370 := n7_; have BK383 := n8_; have BK387 := n9_; have BK391 := n10_; have BK396 := n11_; have HB := n12_; clear n0_ n1_ n2_ n3_ n4_ n5_ n6_ n7_ n8_ n9_ n10_ n11_ n12_; (try clear hb); (try clear hb2); (try clear hk); (try clear hi)))
           go_meet
           case rel => exact ⟨_, ((t395 != t382)), (by first | rfl | (simp; done) | (simp [*]; done)), H', ⟨by have := HJ24.out; first | omega | exact Nat.le_refl _⟩, ⟨by (with_reducible repeat (first | apply Kd.R_alloc | apply Kd.R_drewN | apply Kd.R_drew)); exact Kd.R_mono HO_384000.out (fun _ hk => ⟨hk.1, ⟨hk.2.1, hk.2.2.1⟩⟩)⟩, ⟨by (with_reducible repeat (first | apply Kd.R_alloc | apply Kd.R_drewN | apply Kd.R_drew)); exact Kd.R_mono HO_388000.out (fun _ hk => ⟨hk.1, ⟨hk.2.1, hk.2.2.1⟩⟩)⟩, ⟨by (with_reducible repeat (first | apply Kd.R_alloc | apply Kd.R_drewN | apply Kd.R_drew)); exact Kd.R_mono HO_392000.out (fun _ hk => ⟨hk.1, ⟨hk.2.1, hk.2.2.1⟩⟩)⟩, ⟨by (with_reducible repeat (first | apply Kd.R_alloc | apply Kd.R_drewN | apply Kd.R_drew)); exact Kd.R_mono HO_397000.out (fun _ hk => ⟨hk.1, ⟨hk.2.1, hk.2.2.1⟩⟩)⟩, ⟨by (with_reducible repeat (first | refine blk_drewN ?_ _ | refine blk_drew ?_ | refine blk_alloc ?_ _)); exact BK369.out⟩, ⟨by (with_reducible repeat (first | refine blk_drewN ?_ _ | refine blk_drew ?_ | refine blk_alloc ?_ _)); exact BK370.out⟩, ⟨by (with_reducible repeat (first | refine blk_drewN ?_ _ | refine blk_drew ?_ | refine blk_alloc ?_ _)); exact BK383.out⟩, ⟨by (with_reducible repeat (first | refine blk_drewN ?_ _ | refine blk_drew ?_ | refine blk_alloc ?_ _)); exact BK387.out⟩, ⟨by (with_reducible repeat (first | refine blk_drewN ?_ _ | refine blk_drew ?_ | refine blk_alloc ?_ _)); exact BK391.out⟩, ⟨by (with_reducible repeat (first | refine blk_drewN ?_ _ | refine blk_drew ?_ | refine blk_alloc ?_ _)); exact BK396.out⟩, ⟨by repeat (first | (with_reducible first | exact HB.out | apply below_alloc | apply pw_below_drewN | apply below_drew1 | refine below_set ?_ GE369.out | refine below_set ?_ GE370.out | refine below_set ?_ GE383.out | refine below_set ?_ GE387.out | refine below_set ?_ GE391.out | refine below_set ?_ GE396.out) | exact HB.out)⟩⟩
          ·replace c131 := Bool.eq_false_iff.mpr c131
           subst c131
           have H1 : (laws_FnExactMeetTries.j1 kj24 t382 true l0_0 l1_0 t379 t392) = some true := by rw [if_neg (show ¬ (false = true) by decide)] at H; exact H
           exact absurd H1 (by cases kj24 <;> simp [laws_FnExactMeetTries.j1])
        case rest =>
         clear HC107
         try clear c1
         try clear p2
         try clear c4
         try clear c5
         try clear c6
         try clear c7
         try clear c8
         try clear c9
         try clear c10
         try clear c11
         try clear c12
         try clear c13
         try clear c14
         try clear c15
         try clear c43
         try clear c48
         try clear c49
         try clear c50
         try clear c52
         try clear c57
         try clear c58
         try clear c59
         try clear c60
         try clear c66
         try clear c67
         try clear c68
         try clear c69
         try clear c70
         try clear c73
         try clear c74
         try clear c75
         try clear c76
         try clear c77
         try clear c78
         try clear c80
         try clear c81
         try clear c82
         try clear c83
         try clear c86
         try clear c87
         try clear c88
         try clear c89
         try clear c90
         try clear c92
         try clear c93
         try clear c94
         try clear c95
         try clear c98
         try clear c101
         try clear c104
         try clear c116
         try clear c117
         try clear c118
         try clear c119
         try clear c120
         try clear c123
         try clear c124
         try clear c125
         try clear c126
         try clear c129
         try clear c129b0
         try clear c131
         try clear c132
         try clear c133
         try clear c134
         try clear c135
         try clear c136
         try clear c138
         try clear c139
         try clear c140
         try clear c141
         try clear c144
         try clear c145
         try clear c146
         try clear c147
         try clear c148
         try clear c150
         try clear c151
         try clear c152
         try clear c153
         try clear hcz121_0
         try clear hcz127_0
         try clear hcz137_0
         try clear hcz142_0
         try clear hcz149_0
         try clear hcz154_0
         try clear hcz44_0
         try clear hcz51_0
         try clear hcz53_0
         try clear hcz61_0
         try clear hcz62_0
         try clear hcz71_0
         try clear hcz79_0
         try clear hcz84_0
         try clear hcz91_0
         try clear hcz96_0
         try clear hfz121_0
         try clear hfz127_0
         try clear hfz137_0
         try clear hfz142_0
         try clear hfz149_0
         try clear hfz154_0
         try clear hfz44_0
         try clear hfz51_0
         try clear hfz53_0
         try clear hfz61_0
         try clear hfz62_0
         try clear hfz71_0
         try clear hfz79_0
         try clear hfz84_0
         try clear hfz91_0
         try clear hfz96_0
         try clear p2
         obtain ⟨kq, x82_106, rfl, HA, HJ106, HO_384000, HO_388000, HO_392000, HO_397000, BK369, BK370, BK383, BK387, BK391, BK396, HB⟩ := hcut
         have hl388000_106 := (Kd.R_reads' HO_388000.out).1
         rw [hl388000_106] at HO_388000
         (try simp only [hl388000_106])
         (try simp only [hl388000_106] at BK369)
         (try simp only [hl388000_106] at BK370)
         (try simp only [hl388000_106] at BK383)
         (try simp only [hl388000_106] at BK387)
         (try simp only [hl388000_106] at BK391)
         (try simp only [hl388000_106] at BK396)
         (try simp only [hl388000_106] at HO_384000)
         (try simp only [hl388000_106] at HO_392000)
         (try simp only [hl388000_106] at HO_397000)
         have hl392000_106 := (Kd.R_reads' HO_392000.out).1
         rw [hl392000_106] at HO_392000
         (try simp only [hl392000_106])
         (try simp only [hl392000_106] at BK369)
         (try simp only [hl392000_106] at BK370)
         (try simp only [hl392000_106] at BK383)
         (try simp only [hl392000_106] at BK387)
         (try simp only [hl392000_106] at BK391)
         (try simp only [hl392000_106] at BK396)
         (try simp only [hl392000_106] at HO_384000)
         (try simp only [hl392000_106] at HO_388000)
         (try simp only [hl392000_106] at HO_397000)
         cases kq with
         | zero => exact absurd HA.out (by simp [laws_FnExactMeetTries.j1])
         | succ kj106 =>
          have H := HA.out
          clear HA
          simp only [laws_FnExactMeetTries.j1] at H
          by_cases c156 : x82_106 = true
          ·subst c156
           have H1 : (some false) = some true := by rw [if_pos rfl] at H; exact H
           exact absurd H1 (by simp)
          ·replace c156 := Bool.eq_false_iff.mpr c156
           subst c156
           have H1 : ((laws_markTrie.f kj106 t392 1).bind fun bt411 => ((laws_heldTrie.f kj106 bt411.2 1).bind fun t413 => (if t413 < 0 then (some false) else (if t413 = bt411.1 then ((laws_toTrie.f kj106 l0_0).bind fun t414 => ((laws_toTrie.f kj106 l1_0).bind fun t417 => ((impl_MeetTries.f t414 t417).bind fun bt420 => ((laws_eqTrie.f kj106 bt420.1 t379).bind fun t425 => (if t425 = true then (laws_FnExactMeetTries.j2 kj106 bt411.1 (bt420.2 != t382) bt411.2) else (laws_FnExactMeetTries.j2 kj106 bt411.1 true bt411.2)))))) else (some false))))) = some true := by rw [if_neg (show ¬ (false = true) by decide)] at H; exact H
           clear H
           have H := H1
           clear H1
           replace H := Option.bind_eq_some_iff.mp H
           obtain ⟨⟨t411, t412⟩, A1570, H⟩ := H
           replace H : ((laws_heldTrie.f kj106 t412 1).bind fun t413 => (if t413 < 0 then (some false) else (if t413 = t411 then ((laws_toTrie.f kj106 l0_0).bind fun t414 => ((laws_toTrie.f kj106 l1_0).bind fun t417 => ((impl_MeetTries.f t414 t417).bind fun bt420 => ((laws_eqTrie.f kj106 bt420.1 t379).bind fun t425 => (if t425 = true then (laws_FnExactMeetTries.j2 kj106 t411 (bt420.2 != t382) t412) else (laws_FnExactMeetTries.j2 kj106 t411 true t412)))))) else (some false)))) = some true := H
           have A157 := Aside0.mk A1570
           clear A1570
           replace H := Option.bind_eq_some_iff.mp H
           obtain ⟨t413, A1580, H⟩ := H
           replace H : (if t413 < 0 then (some false) else (if t413 = t411 then ((laws_toTrie.f kj106 l0_0).bind fun t414 => ((laws_toTrie.f kj106 l1_0).bind fun t417 => ((impl_MeetTries.f t414 t417).bind fun bt420 => ((laws_eqTrie.f kj106 bt420.1 t379).bind fun t425 => (if t425 = true then (laws_FnExactMeetTries.j2 kj106 t411 (bt420.2 != t382) t412) else (laws_FnExactMeetTries.j2 kj106 t411 true t412)))))) else (some false))) = some true := H
           have A158 := Aside0.mk A1580
           clear A1580
           by_cases c159 : t413 < 0
           ·rw [if_pos c159] at H
            exact absurd H (by simp)
           ·rw [if_neg c159] at H
            have c159b0 : decide (t413 < 0) = false := decide_eq_false c159
            clear c159
            by_cases c169 : t413 = t411
            ·rw [if_pos c169] at H
             have c169b0 : (t413 == t411) = true := beq_iff_eq.mpr c169
             have c169b1 : (t413 != t411) = false := bne_eq_false_iff_eq.mpr c169
             clear c169
             replace H := Option.bind_eq_some_iff.mp H
             obtain ⟨t414, A1700, H⟩ := H
             replace H : ((laws_toTrie.f kj106 l1_0).bind fun t417 => ((impl_MeetTries.f t414 t417).bind fun bt420 => ((laws_eqTrie.f kj106 bt420.1 t379).bind fun t425 => (if t425 = true then (laws_FnExactMeetTries.j2 kj106 t411 (bt420.2 != t382) t412) else (laws_FnExactMeetTries.j2 kj106 t411 true t412))))) = some true := H
             have A170 := Aside0.mk A1700
             clear A1700
             replace H := Option.bind_eq_some_iff.mp H
             obtain ⟨t417, A1710, H⟩ := H
             replace H : ((impl_MeetTries.f t414 t417).bind fun bt420 => ((laws_eqTrie.f kj106 bt420.1 t379).bind fun t425 => (if t425 = true then (laws_FnExactMeetTries.j2 kj106 t411 (bt420.2 != t382) t412) else (laws_FnExactMeetTries.j2 kj106 t411 true t412)))) = some true := H
             have A171 := Aside0.mk A1710
             clear A1710
             replace H := Option.bind_eq_some_iff.mp H
             obtain ⟨⟨t420, t423⟩, A1720, H⟩ := H
             replace H : ((laws_eqTrie.f kj106 t420 t379).bind fun t425 => (if t425 = true then (laws_FnExactMeetTries.j2 kj106 t411 (t423 != t382) t412) else (laws_FnExactMeetTries.j2 kj106 t411 true t412))) = some true := H
             have A172 := Aside0.mk A1720
             clear A1720
             have HC173 := Aside0.mk H
             clear H
             have hnb174 := NB396_369.out
             have hnc174 := NB369_396.out
             have hnb175 := NB396_370.out
             have hnc175 := NB370_396.out
             have hnb176 := NB396_383.out
             have hnc176 := NB383_396.out
             have hnb177 := NB396_387.out
             have hnc177 := NB387_396.out
             have hnb178 := NB396_391.out
             have hnc178 := NB391_396.out
             have hcz179_0 : wc.cell? ⟨gb396, 0, none⟩ = some (.slice Ao65 t392.length co65) := (blk_cell BK396.out 0).trans rfl
             have hfz179_0 := blk_frozen BK396.out 0
             try go_wp2_with (first | ((with_reducible refine gate_callee (f := 10) rfl ?_); refine goesL_ (some 85) rfl rfl Try.func10 (by kernel_rfl) rfl #[.agg #[.slice Ao65 t392.length co65], .int .i64 1] rfl (by (try simp only [List.map_toArray, List.map_cons, List.map_nil]); first | done | rfl | (simp only [List.length_drop, List.length_take]; rfl)) ?_; (with_reducible refine (laws_markTrie.calls kj106 (fun k_ => some k_ = (.slice Ao65 t392.length co65 : Value).ownBlock) (.slice Ao65 t392.length co65) t392 1 t411 t412 w _ ?side1 ?side2 A157.out).mono ?_); (case side1 => repeat (first | (with_reducible first | exact HB.out | apply below_alloc | apply pw_below_drewN | apply below_drew1 | refine below_set ?_ GE369.out | refine below_set ?_ GE370.out | refine below_set ?_ GE383.out | refine below_set ?_ GE387.out | refine below_set ?_ GE391.out | refine below_set ?_ GE396.out) | exact HB.out)); (case side2 => exact Kd.R_tight rfl HO_397000.out); rintro e w180 ⟨rfl, hy0, hb, hkp⟩; refine ⟨_, rfl, ?_⟩; have n0_ := Aside0.mk (Kd.R_mono (ok' := fun k_ => some k_ ≠ (.slice Ao47 t407.length co47 : Value).ownBlock ∧ some k_ ≠ (.slice Ao56 t409.length co56 : Value).ownBlock ∧ some k_ ≠ (.slice Ao65 t392.length co65 : Value).ownBlock) (Kd.R_keptB (HO_384000.out) hkp (fun k_ hk_ hs_ => (hk_.2.2) hs_)) (fun k_ hk_ => ⟨hk_.1.1, hk_.1.2.1, hk_.1.2.2⟩)); have n1_ := Aside0.mk (Kd.R_mono (ok' := fun k_ => some k_ ≠ (.slice Ao41 t379.length co41 : Value).ownBlock ∧ some k_ ≠ (.slice Ao56 t409.length co56 : Value).ownBlock ∧ some k_ ≠ (.slice Ao65 t392.length co65 : Value).ownBlock) (Kd.R_keptB (HO_388000.out) hkp (fun k_ hk_ hs_ => (hk_.2.2) hs_)) (fun k_ hk_ => ⟨hk_.1.1, hk_.1.2.1, hk_.1.2.2⟩)); have n2_ := Aside0.mk (Kd.R_mono (ok' := fun k_ => some k_ ≠ (.slice Ao41 t379.length co41 : Value).ownBlock ∧ some k_ ≠ (.slice Ao47 t407.length co47 : Value).ownBlock ∧ some k_ ≠ (.slice Ao65 t392.length co65 : Value).ownBlock) (Kd.R_keptB (HO_392000.out) hkp (fun k_ hk_ hs_ => (hk_.2.2) hs_)) (fun k_ hk_ => ⟨hk_.1.1, hk_.1.2.1, hk_.1.2.2⟩)); have n3_ := Aside0.mk (Kd.R_reok rfl hy0 (fun k_ e_ => HO_397000.out.1 k_ e_)); have n4_ := Aside0.mk (blk_kept (by (with_reducible repeat (first | refine blk_drewN ?_ _ | refine blk_drew ?_ | refine blk_alloc ?_ _)); exact BK369.out) hkp (fun hs_ => (fun e_ => (Kd.R_ne HO_397000.out BK369.out (by decide)) e_) hs_)); have n5_ := Aside0.mk (blk_kept (by (with_reducible repeat (first | refine blk_drewN ?_ _ | refine blk_drew ?_ | refine blk_alloc ?_ _)); exact BK370.out) hkp (fun hs_ => (fun e_ => (Kd.R_ne HO_397000.out BK370.out (by decide)) e_) hs_)); have n6_ := Aside0.mk (blk_kept (by (with_reducible repeat (first | refine blk_drewN ?_ _ | refine blk_drew ?_ | refine blk_alloc ?_ _)); exact BK383.out) hkp (fun hs_ => (fun e_ => (Kd.R_ne HO_397000.out BK383.out (by decide)) e_) hs_)); have n7_ := Aside0.mk (blk_kept (by (with_reducible repeat (first | refine blk_drewN ?_ _ | refine blk_drew ?_ | refine blk_alloc ?_ _)); exact BK387.out) hkp (fun hs_ => (fun e_ => (Kd.R_ne HO_397000.out BK387.out (by decide)) e_) hs_)); have n8_ := Aside0.mk (blk_kept (by (with_reducible repeat (first | refine blk_drewN ?_ _ | refine blk_drew ?_ | refine blk_alloc ?_ _)); exact BK391.out) hkp (fun hs_ => (fun e_ => (Kd.R_ne HO_397000.out BK391.out (by decide)) e_) hs_)); have n9_ := Aside0.mk (blk_kept (by (with_reducible repeat (first | refine blk_drewN ?_ _ | refine blk_drew ?_ | refine blk_alloc ?_ _)); exact BK396.out) hkp (fun hs_ => (fun e_ => (Kd.R_ne HO_397000.out BK396.out (by decide)) e_) hs_)); have n10_ := Aside0.mk (hb); clear HO_384000; clear HO_388000; clear HO_392000; clear HO_397000; clear BK369; clear BK370; clear BK383; clear BK387; clear BK391; clear BK396; clear HB; have HO_384000 := n0_; have HO_388000 := n1_; have HO_392000 := n2_; have HO_397000 := n3_; have BK369 := n4_; have BK370 := n5_; have BK383 := n6_; have BK387 := n7_; have BK391 := n8_; have BK396 := n9_; have HB := n10_; clear n0_ n1_ n2_ n3_ n4_ n5_ n6_ n7_ n8_ n9_ n10_; (try clear hb); (try clear hkp); (try clear hy0); have hcz181_0 : w180.cell? ⟨gb396, 0, none⟩ = some (.slice Ao65 t392.length co65) := (blk_cell BK396.out 0).trans rfl; have hfz181_0 := blk_frozen BK396.out 0) | ((with_reducible refine gate_callee (f := 11) rfl ?_); refine goesL_ (some 88) rfl rfl Try.func11 (by kernel_rfl) rfl #[.agg #[.slice Ao65 t412.length co65], .int .i64 1] rfl (by (try simp only [List.map_toArray, List.map_cons, List.map_nil]); first | done | (rw [show t412.length = t392.length from (Kd.R_reads' HO_397000.out).1.symm] <;> rfl) | rfl | (simp only [List.length_drop, List.length_take]; rfl)) ?_; (with_reducible refine (laws_heldTrie.calls kj106 _ _ t412 1 t413 _ ?side1 ?side2 A158.out).mono ?_); (case side1 => repeat (first | exact (Kd.R_reads' HO_397000.out).2.2 | (with_reducible refine Kd.C_alloc ?_ _) | (with_reducible refine Kd.C_drewN ?_ _) | (with_reducible refine Kd.C_drew ?_))); (case side2 => rw [show t412.length = t392.length from (Kd.R_reads' HO_397000.out).1.symm]; exact (Kd.R_reads' HO_397000.out).2.1); rintro e w182 ⟨rfl, hb⟩; refine ⟨_, rfl, ?_⟩; have n0_ := Aside0.mk (Kd.R_below (by (with_reducible repeat (first | apply Kd.R_alloc | apply Kd.R_drewN | apply Kd.R_drew)); exact HO_384000.out) hb); have n1_ := Aside0.mk (Kd.R_below (by (with_reducible repeat (first | apply Kd.R_alloc | apply Kd.R_drewN | apply Kd.R_drew)); exact HO_388000.out) hb); have n2_ := Aside0.mk (Kd.R_below (by (with_reducible repeat (first | apply Kd.R_alloc | apply Kd.R_drewN | apply Kd.R_drew)); exact HO_392000.out) hb); have n3_ := Aside0.mk (Kd.R_below (by (with_reducible repeat (first | apply Kd.R_alloc | apply Kd.R_drewN | apply Kd.R_drew)); exact HO_397000.out) hb); have n4_ := Aside0.mk (blk_below (g := gb369) (o := .cells #[.slice A0_0 l0_0.length c0_0] 32 (0, 0)) (by (with_reducible repeat (first | refine blk_drewN ?_ _ | refine blk_drew ?_ | refine blk_alloc ?_ _)); exact BK369.out) hb); have n5_ := Aside0.mk (blk_below (g := gb370) (o := .cells #[.slice A1_0 l1_0.length c1_0] 32 (0, 0)) (by (with_reducible repeat (first | refine blk_drewN ?_ _ | refine blk_drew ?_ | refine blk_alloc ?_ _)); exact BK370.out) hb); have n6_ := Aside0.mk (blk_below (g := gb383) (o := .cells #[.slice Ao41 t379.length co41] 24 (0, 0)) (by (with_reducible repeat (first | refine blk_drewN ?_ _ | refine blk_drew ?_ | refine blk_alloc ?_ _)); exact BK383.out) hb); have n7_ := Aside0.mk (blk_below (g := gb387) (o := .cells #[.slice Ao47 t407.length co47] 24 (0, 0)) (by (with_reducible repeat (first | refine blk_drewN ?_ _ | refine blk_drew ?_ | refine blk_alloc ?_ _)); exact BK387.out) hb); have n8_ := Aside0.mk (blk_below (g := gb391) (o := .cells #[.slice Ao56 t409.length co56] 24 (0, 0)) (by (with_reducible repeat (first | refine blk_drewN ?_ _ | refine blk_drew ?_ | refine blk_alloc ?_ _)); exact BK391.out) hb); have n9_ := Aside0.mk (blk_below (g := gb396) (o := .cells #[.slice Ao65 t392.length co65] 24 (0, 0)) (by (with_reducible repeat (first | refine blk_drewN ?_ _ | refine blk_drew ?_ | refine blk_alloc ?_ _)); exact BK396.out) hb); have n10_ := Aside0.mk (below_step (by repeat (first | (with_reducible first | exact HB.out | apply below_alloc | apply pw_below_drewN | apply below_drew1 | refine below_set ?_ GE369.out | refine below_set ?_ GE370.out | refine below_set ?_ GE383.out | refine below_set ?_ GE387.out | refine below_set ?_ GE391.out | refine below_set ?_ GE396.out) | exact HB.out)) hb); clear HO_384000; clear HO_388000; clear HO_392000; clear HO_397000; clear BK369; clear BK370; clear BK383; clear BK387; clear BK391; clear BK396; clear HB; have HO_384000 := n0_; have HO_388000 := n1_; have HO_392000 := n2_; have HO_397000 := n3_; have BK369 := n4_; have BK370 := n5_; have BK383 := n6_; have BK387 := n7_; have BK391 := n8_; have BK396 := n9_; have HB := n10_; clear n0_ n1_ n2_ n3_ n4_ n5_ n6_ n7_ n8_ n9_ n10_; (try clear hb); (try clear hb2); (try clear hk); (try clear hi)))
             have n0_ := Aside0.mk (Kd.R_drew HO_384000.out)
             have n1_ := Aside0.mk (Kd.R_drew HO_388000.out)
             have n2_ := Aside0.mk (Kd.R_drew HO_392000.out)
             have n3_ := Aside0.mk (Kd.R_drew HO_397000.out)
             have n4_ := Aside0.mk (blk_drew BK369.out)
             have n5_ := Aside0.mk (blk_drew BK370.out)
             have n6_ := Aside0.mk (blk_drew BK383.out)
             have n7_ := Aside0.mk (blk_drew BK387.out)
             have n8_ := Aside0.mk (blk_drew BK391.out)
             have n9_ := Aside0.mk (blk_drew BK396.out)
             have n10_ := Aside0.mk (below_drew1 HB.out)
             revert n0_ n1_ n2_ n3_ n4_ n5_ n6_ n7_ n8_ n9_ n10_
             clear HO_384000 HO_388000 HO_392000 HO_397000 BK369 BK370 BK383 BK387 BK391 BK396 HB
             intro HO_384000 HO_388000 HO_392000 HO_397000 BK369 BK370 BK383 BK387 BK391 BK396 HB
             refine start_ (n := 11) (S := fun w' => w'.cell? ⟨gb369, 0, none⟩ = some (.slice A0_0 l0_0.length c0_0) ∧ w'.cell? ⟨gb370, 0, none⟩ = some (.slice A1_0 l1_0.length c1_0)) (ds := []) #[false, false, false, false, false, false, false, false, false, false, false] (by kernel_rfl) rfl rfl ⟨(blk_cell BK369.out 0).trans rfl, (blk_cell BK370.out 0).trans rfl⟩ (fun hHeld => ?_); refine with_tabW laws_FnExactMeetTries.tab31 laws_FnExactMeetTries.bits31 (fun HT_ HW_ => ?_)
             generalize w182.drew = w183 at HO_384000 HO_388000 HO_392000 HO_397000 BK369 BK370 BK383 BK387 BK391 BK396 HB hHeld ⊢
             refine take_ (i := 0) (N := some 95) (v := ?_) (a' := ?_) #[true, false, false, false, false, false, false, false, false, false, false] rfl rfl (take_ofW HT_.out HW_.out (by kernel_rfl)) (fun _ _ _ h => h) (Or.inl ⟨by rfl, ?_⟩) hHeld ?_ ?_
             rotate_left
             ·rintro w' ⟨s0, s1⟩
              go_simp
              with_reducible rfl
             rotate_left
             ·simp only [Act.put, List.setIfInBounds_toArray, List.set_cons_zero, List.set_cons_succ, i64_w, i32_w]
              rfl
             refine take_ (i := 2) (N := some 97) (v := ?_) (a' := ?_) #[true, false, true, false, false, false, false, false, false, false, false] rfl rfl (take_ofW HT_.out HW_.out (by kernel_rfl)) (fun _ _ _ h => h) (Or.inl ⟨by rfl, ?_⟩) hHeld ?_ ?_
             rotate_left
             ·rintro w' ⟨s0, s1⟩
              go_simp
              with_reducible rfl
             rotate_left
             ·simp only [Act.put, List.setIfInBounds_toArray, List.set_cons_zero, List.set_cons_succ, i64_w, i32_w]
              rfl
             refine join_ (σ := Value × Value × Value × Nat) 2 #[true, true, true, true, true, true, true, true, true, false, false] (fun s_ => [(96, .agg #[s_.1]), (98, .agg #[s_.2.1]), (99, .tuple #[.agg #[s_.2.2.1], .bool t423]), (15, .pointer (some ⟨s_.2.2.2, 0, none⟩)), (94, .tuple #[.agg #[s_.2.2.1], .bool t423]), (100, .agg #[s_.2.2.1]), (101, .bool t423)]) (fun s_ w' => (w'.cell? ⟨gb369, 0, none⟩ = some (.slice A0_0 l0_0.length c0_0) ∧ w'.cell? ⟨gb370, 0, none⟩ = some (.slice A1_0 l1_0.length c1_0)) ∧ (Kd.R k67 67 w' w.heap.size (fun k_ => some k_ ≠ (s_.2.1 : Value).ownBlock ∧ some k_ ≠ (s_.2.2.1 : Value).ownBlock ∧ some k_ ≠ (.slice Ao41 t379.length co41 : Value).ownBlock ∧ some k_ ≠ (.slice Ao47 t407.length co47 : Value).ownBlock ∧ some k_ ≠ (.slice Ao56 t409.length co56 : Value).ownBlock ∧ some k_ ≠ (.slice Ao65 t392.length co65 : Value).ownBlock) s_.1 t414) ∧ (Kd.R k67 67 w' w.heap.size (fun k_ => some k_ ≠ (s_.1 : Value).ownBlock ∧ some k_ ≠ (s_.2.2.1 : Value).ownBlock ∧ some k_ ≠ (.slice Ao41 t379.length co41 : Value).ownBlock ∧ some k_ ≠ (.slice Ao47 t407.length co47 : Value).ownBlock ∧ some k_ ≠ (.slice Ao56 t409.length co56 : Value).ownBlock ∧ some k_ ≠ (.slice Ao65 t392.length co65 : Value).ownBlock) s_.2.1 t417) ∧ (Kd.R k67 67 w' w.heap.size (fun k_ => some k_ ≠ (s_.1 : Value).ownBlock ∧ some k_ ≠ (s_.2.1 : Value).ownBlock ∧ some k_ ≠ (.slice Ao41 t379.length co41 : Value).ownBlock ∧ some k_ ≠ (.slice Ao47 t407.length co47 : Value).ownBlock ∧ some k_ ≠ (.slice Ao56 t409.length co56 : Value).ownBlock ∧ some k_ ≠ (.slice Ao65 t392.length co65 : Value).ownBlock) s_.2.2.1 t420) ∧ (Kd.R k67 67 w' w.heap.size (fun k_ => some k_ ≠ (s_.1 : Value).ownBlock ∧ some k_ ≠ (s_.2.1 : Value).ownBlock ∧ some k_ ≠ (s_.2.2.1 : Value).ownBlock ∧ some k_ ≠ (.slice Ao47 t407.length co47 : Value).ownBlock ∧ some k_ ≠ (.slice Ao56 t409.length co56 : Value).ownBlock ∧ some k_ ≠ (.slice Ao65 t392.length co65 : Value).ownBlock) (.slice Ao41 t379.length co41) t379) ∧ (Kd.R k67 67 w' w.heap.size (fun k_ => some k_ ≠ (s_.1 : Value).ownBlock ∧ some k_ ≠ (s_.2.1 : Value).ownBlock ∧ some k_ ≠ (s_.2.2.1 : Value).ownBlock ∧ some k_ ≠ (.slice Ao41 t379.length co41 : Value).ownBlock ∧ some k_ ≠ (.slice Ao56 t409.length co56 : Value).ownBlock ∧ some k_ ≠ (.slice Ao65 t392.length co65 : Value).ownBlock) (.slice Ao47 t407.length co47) t407) ∧ (Kd.R k67 67 w' w.heap.size (fun k_ => some k_ ≠ (s_.1 : Value).ownBlock ∧ some k_ ≠ (s_.2.1 : Value).ownBlock ∧ some k_ ≠ (s_.2.2.1 : Value).ownBlock ∧ some k_ ≠ (.slice Ao41 t379.length co41 : Value).ownBlock ∧ some k_ ≠ (.slice Ao47 t407.length co47 : Value).ownBlock ∧ some k_ ≠ (.slice Ao65 t392.length co65 : Value).ownBlock) (.slice Ao56 t409.length co56) t409) ∧ (Kd.R k67 67 w' w.heap.size (fun k_ => some k_ ≠ (s_.1 : Value).ownBlock ∧ some k_ ≠ (s_.2.1 : Value).ownBlock ∧ some k_ ≠ (s_.2.2.1 : Value).ownBlock ∧ some k_ ≠ (.slice Ao41 t379.length co41 : Value).ownBlock ∧ some k_ ≠ (.slice Ao47 t407.length co47 : Value).ownBlock ∧ some k_ ≠ (.slice Ao56 t409.length co56 : Value).ownBlock) (.slice Ao65 t392.length co65) t412) ∧ (w'.heap[gb369]? = some (.cells #[.slice A0_0 l0_0.length c0_0] 32 (0, 0))) ∧ (w'.heap[gb370]? = some (.cells #[.slice A1_0 l1_0.length c1_0] 32 (0, 0))) ∧ (w'.heap[gb383]? = some (.cells #[.slice Ao41 t379.length co41] 24 (0, 0))) ∧ (w'.heap[gb387]? = some (.cells #[.slice Ao47 t407.length co47] 24 (0, 0))) ∧ (w'.heap[gb391]? = some (.cells #[.slice Ao56 t409.length co56] 24 (0, 0))) ∧ (w'.heap[gb396]? = some (.cells #[.slice Ao65 t392.length co65] 24 (0, 0))) ∧ (w'.heap[s_.2.2.2]? = some (.cells #[.slice none 0 0] 24 (0, 0))) ∧ (w.heap.size ≤ s_.2.2.2) ∧ (w.heap.size ≤ s_.2.2.2) ∧ (gb369 ≠ s_.2.2.2) ∧ (s_.2.2.2 ≠ gb369) ∧ (gb370 ≠ s_.2.2.2) ∧ (s_.2.2.2 ≠ gb370) ∧ (gb383 ≠ s_.2.2.2) ∧ (s_.2.2.2 ≠ gb383) ∧ (gb387 ≠ s_.2.2.2) ∧ (s_.2.2.2 ≠ gb387) ∧ (gb391 ≠ s_.2.2.2) ∧ (s_.2.2.2 ≠ gb391) ∧ (gb396 ≠ s_.2.2.2) ∧ (s_.2.2.2 ≠ gb396) ∧ (Below w.heap.size w w')) ?_ ?_
             rotate_left
             ·intro hCont
              refine two_ (i := 1) (j := 8) (Ni := some 96) (Nj := some 15) #[true, true, true, false, false, false, false, false, false, false, false] #[true, false, true, false, false, false, false, false, true, false, false] rfl rfl rfl rfl (two_of HT_.out (by kernel_rfl)) (by decide) (by decide) (fun K hK => ?_) (fun K hK => ?_)
              ·skip
               refine goes_ Try.func14 (by kernel_rfl) rfl #[.agg #[.slice A0_0 l0_0.length c0_0]] (by rfl) rfl rfl (by (try simp only [List.map_toArray, List.map_cons, List.map_nil]); first | done | rfl | (simp only [List.length_drop, List.length_take]; rfl)) ?_
               with_reducible refine (laws_toTrie.calls kj106 _ _ l0_0 t414 _ ?side1 ?side2 A170.out).mono ?_
               (case side1 => exact (Kd.C_below HR0_0.out HB.out))
               (case side2 => exact HC0_0.out)
               rintro e w184 ⟨v415, rfl, ho0, hb⟩
               refine ⟨_, rfl, ?_⟩
               have n0_ := Aside0.mk (Kd.R_elder' HO_384000.out (Kd.R_base ho0) hb)
               have n1_ := Aside0.mk (Kd.R_elder' HO_388000.out (Kd.R_base ho0) hb)
               have n2_ := Aside0.mk (Kd.R_elder' HO_392000.out (Kd.R_base ho0) hb)
               have n3_ := Aside0.mk (Kd.R_elder' HO_397000.out (Kd.R_base ho0) hb)
               have n4_ := Aside0.mk (Kd.R_lower (Kd.R_new' (Kd.R_new' (Kd.R_new' (Kd.R_new' ho0 (Kd.R_lt HO_384000.out)) (Kd.R_lt HO_388000.out)) (Kd.R_lt HO_392000.out)) (Kd.R_lt HO_397000.out)) (below_size HB.out))
               have n5_ := Aside0.mk (blk_below BK369.out hb)
               have n6_ := Aside0.mk (blk_below BK370.out hb)
               have n7_ := Aside0.mk (blk_below BK383.out hb)
               have n8_ := Aside0.mk (blk_below BK387.out hb)
               have n9_ := Aside0.mk (blk_below BK391.out hb)
               have n10_ := Aside0.mk (blk_below BK396.out hb)
               have n11_ := Aside0.mk (below_step HB.out hb)
               revert n0_ n1_ n2_ n3_ n4_ n5_ n6_ n7_ n8_ n9_ n10_ n11_
               clear HO_384000 HO_388000 HO_392000 HO_397000 BK369 BK370 BK383 BK387 BK391 BK396 HB
               intro HO_384000 HO_388000 HO_392000 HO_397000 HO416 BK369 BK370 BK383 BK387 BK391 BK396 HB
               (try clear hb)
               (try clear hb2)
               (try clear hk)
               (try clear hi)
               (try clear ho0)
               refine hK.out _ _ ⟨(blk_cell BK369.out 0).trans rfl, (blk_cell BK370.out 0).trans rfl⟩ (fun hHeld => ?_)
               clear hK K
               refine norm_ (a' := ?_) ?_ ?_
               rotate_left
               ·show Act.put _ (some 96) _ = _
                simp only [Act.put, List.setIfInBounds_toArray, List.set_cons_zero, List.set_cons_succ, i64_w, i32_w]
                rfl
               refine two_ (i := 3) (j := 8) (Ni := some 98) (Nj := some 15) #[true, true, true, true, false, false, false, false, false, false, false] #[true, true, true, false, false, false, false, false, true, false, false] rfl rfl rfl rfl (two_of HT_.out (by kernel_rfl)) (by decide) (by decide) (fun K hK => ?_) (fun K hK => ?_)
               ·skip
                refine goes_ Try.func14 (by kernel_rfl) rfl #[.agg #[.slice A1_0 l1_0.length c1_0]] (by rfl) rfl rfl (by (try simp only [List.map_toArray, List.map_cons, List.map_nil]); first | done | rfl | (simp only [List.length_drop, List.length_take]; rfl)) ?_
                with_reducible refine (laws_toTrie.calls kj106 _ _ l1_0 t417 _ ?side1 ?side2 A171.out).mono ?_
                (case side1 => exact (Kd.C_below HR1_0.out HB.out))
                (case side2 => exact HC1_0.out)
                rintro e w185 ⟨v418, rfl, ho0, hb⟩
                refine ⟨_, rfl, ?_⟩
                have n0_ := Aside0.mk (Kd.R_elder' HO_384000.out (Kd.R_base ho0) hb)
                have n1_ := Aside0.mk (Kd.R_elder' HO_388000.out (Kd.R_base ho0) hb)
                have n2_ := Aside0.mk (Kd.R_elder' HO_392000.out (Kd.R_base ho0) hb)
                have n3_ := Aside0.mk (Kd.R_elder' HO_397000.out (Kd.R_base ho0) hb)
                have n4_ := Aside0.mk (Kd.R_elder' HO416.out (Kd.R_base ho0) hb)
                have n5_ := Aside0.mk (Kd.R_lower (Kd.R_new' (Kd.R_new' (Kd.R_new' (Kd.R_new' (Kd.R_new' ho0 (Kd.R_lt HO_384000.out)) (Kd.R_lt HO_388000.out)) (Kd.R_lt HO_392000.out)) (Kd.R_lt HO_397000.out)) (Kd.R_lt HO416.out)) (below_size HB.out))
                have n6_ := Aside0.mk (blk_below BK369.out hb)
                have n7_ := Aside0.mk (blk_below BK370.out hb)
                have n8_ := Aside0.mk (blk_below BK383.out hb)
                have n9_ := Aside0.mk (blk_below BK387.out hb)
                have n10_ := Aside0.mk (blk_below BK391.out hb)
                have n11_ := Aside0.mk (blk_below BK396.out hb)
                have n12_ := Aside0.mk (below_step HB.out hb)
                revert n0_ n1_ n2_ n3_ n4_ n5_ n6_ n7_ n8_ n9_ n10_ n11_ n12_
                clear HO_384000 HO_388000 HO_392000 HO_397000 HO416 BK369 BK370 BK383 BK387 BK391 BK396 HB
                intro HO_384000 HO_388000 HO_392000 HO_397000 HO416 HO419 BK369 BK370 BK383 BK387 BK391 BK396 HB
                (try clear hb)
                (try clear hb2)
                (try clear hk)
                (try clear hi)
                (try clear ho0)
                obtain ⟨Ao186, co186, eo186⟩ := Kd.R_slice HO416.out
                (first | subst eo186 | (injection eo186 with f1_ f2_ f3_; have f4_ := f1_.symm; have f5_ := f3_.symm; clear f1_ f2_ f3_; subst f4_; subst f5_))
                obtain ⟨Ao187, co187, eo187⟩ := Kd.R_slice HO419.out
                (first | subst eo187 | (injection eo187 with f1_ f2_ f3_; have f4_ := f1_.symm; have f5_ := f3_.symm; clear f1_ f2_ f3_; subst f4_; subst f5_))
                refine hK.out _ _ ⟨(blk_cell BK369.out 0).trans rfl, (blk_cell BK370.out 0).trans rfl⟩ (fun hHeld => ?_)
                clear hK K
                refine norm_ (a' := ?_) ?_ ?_
                rotate_left
                ·show Act.put _ (some 98) _ = _
                 simp only [Act.put, List.setIfInBounds_toArray, List.set_cons_zero, List.set_cons_succ, i64_w, i32_w]
                 rfl
                refine two_ (i := 4) (j := 8) (Ni := some 99) (Nj := some 15) #[true, true, true, true, true, false, false, false, false, false, false] #[true, true, true, true, false, false, false, false, true, false, false] rfl rfl rfl rfl (two_of HT_.out (by kernel_rfl)) (by decide) (by decide) (fun K hK => ?_) (fun K hK => ?_)
                ·skip
                 refine goes_ Try.func15 (by kernel_rfl) rfl #[.agg #[.slice Ao186 t414.length co186], .agg #[.slice Ao187 t417.length co187]] (by rfl) rfl rfl (by (try simp only [List.map_toArray, List.map_cons, List.map_nil]); first | done | rfl | (simp only [List.length_drop, List.length_take]; rfl)) ?_
                 with_reducible refine (impl_MeetTries.calls _ _ t414 _ _ t417 t420 t423 _ ?side1 ?side2 ?side3 ?side4 A172.out).mono ?_
                 (case side1 => exact (Kd.R_reads' HO416.out).2.2)
                 (case side2 => exact (Kd.R_reads' HO416.out).2.1)
                 (case side3 => exact (Kd.R_reads' HO419.out).2.2)
                 (case side4 => exact (Kd.R_reads' HO419.out).2.1)
                 rintro e w188 ⟨v421, rfl, ho0, hb⟩
                 refine ⟨_, rfl, ?_⟩
                 have n0_ := Aside0.mk (Kd.R_elder' HO_384000.out (Kd.R_base ho0) hb)
                 have n1_ := Aside0.mk (Kd.R_elder' HO_388000.out (Kd.R_base ho0) hb)
                 have n2_ := Aside0.mk (Kd.R_elder' HO_392000.out (Kd.R_base ho0) hb)
                 have n3_ := Aside0.mk (Kd.R_elder' HO_397000.out (Kd.R_base ho0) hb)
                 have n4_ := Aside0.mk (Kd.R_elder' HO416.out (Kd.R_base ho0) hb)
                 have n5_ := Aside0.mk (Kd.R_elder' HO419.out (Kd.R_base ho0) hb)
                 have n6_ := Aside0.mk (Kd.R_lower (Kd.R_new' (Kd.R_new' (Kd.R_new' (Kd.R_new' (Kd.R_new' (Kd.R_new' ho0 (Kd.R_lt HO_384000.out)) (Kd.R_lt HO_388000.out)) (Kd.R_lt HO_392000.out)) (Kd.R_lt HO_397000.out)) (Kd.R_lt HO416.out)) (Kd.R_lt HO419.out)) (below_size HB.out))
                 have n7_ := Aside0.mk (blk_below BK369.out hb)
                 have n8_ := Aside0.mk (blk_below BK370.out hb)
                 have n9_ := Aside0.mk (blk_below BK383.out hb)
                 have n10_ := Aside0.mk (blk_below BK387.out hb)
                 have n11_ := Aside0.mk (blk_below BK391.out hb)
                 have n12_ := Aside0.mk (blk_below BK396.out hb)
                 have n13_ := Aside0.mk (below_step HB.out hb)
                 revert n0_ n1_ n2_ n3_ n4_ n5_ n6_ n7_ n8_ n9_ n10_ n11_ n12_ n13_
                 clear HO_384000 HO_388000 HO_392000 HO_397000 HO416 HO419 BK369 BK370 BK383 BK387 BK391 BK396 HB
                 intro HO_384000 HO_388000 HO_392000 HO_397000 HO416 HO419 HO422 BK369 BK370 BK383 BK387 BK391 BK396 HB
                 (try clear hb)
                 (try clear hb2)
                 (try clear hk)
                 (try clear hi)
                 (try clear ho0)
                 refine hK.out _ _ ⟨(blk_cell BK369.out 0).trans rfl, (blk_cell BK370.out 0).trans rfl⟩ (fun hHeld => ?_)
                 clear hK K
                 refine norm_ (a' := ?_) ?_ ?_
                 rotate_left
                 ·show Act.put _ (some 99) _ = _
                  simp only [Act.put, List.setIfInBounds_toArray, List.set_cons_zero, List.set_cons_succ, i64_w, i32_w]
                  rfl
                 refine pure_ (i := 5) (N := some 94) (v := ?_) (a' := ?_) #[true, true, true, true, true, true, false, false, false, false, false] rfl rfl (any_of HT_.out (by kernel_rfl)) (fun _ _ _ h => h) (Or.inl ⟨by rfl, ?_⟩) ?_ ?_
                 rotate_left
                 ·intro w'
                  go_simp
                  with_reducible rfl
                 rotate_left
                 ·simp only [Act.put, List.setIfInBounds_toArray, List.set_cons_zero, List.set_cons_succ, i64_w, i32_w]
                  rfl
                 refine pure_ (i := 6) (N := some 100) (v := ?_) (a' := ?_) #[true, true, true, true, true, true, true, false, false, false, false] rfl rfl (any_of HT_.out (by kernel_rfl)) (fun _ _ _ h => h) (Or.inl ⟨by rfl, ?_⟩) ?_ ?_
                 rotate_left
                 ·intro w'
                  go_simp
                  with_reducible rfl
                 rotate_left
                 ·simp only [Act.put, List.setIfInBounds_toArray, List.set_cons_zero, List.set_cons_succ, i64_w, i32_w]
                  rfl
                 refine pure_ (i := 7) (N := some 101) (v := ?_) (a' := ?_) #[true, true, true, true, true, true, true, true, false, false, false] rfl rfl (any_of HT_.out (by kernel_rfl)) (fun _ _ _ h => h) (Or.inl ⟨by rfl, ?_⟩) ?_ ?_
                 rotate_left
                 ·intro w'
                  go_simp
                  with_reducible rfl
                 rotate_left
                 ·simp only [Act.put, List.setIfInBounds_toArray, List.set_cons_zero, List.set_cons_succ, i64_w, i32_w]
                  rfl
                 refine one_ (i := 8) (N := some 15) #[true, true, true, true, true, true, true, true, true, false, false] rfl rfl (one_of HT_.out (by kernel_rfl)) (by decide) (fun K hK => ?_)
                 refine box_step ?hg (N := 15) ?hd (cs := #[.slice none 0 0]) (t := 24) ?hr ?_; (case hd => rfl); (case hg => rfl); (case hr => first | (go_simp; done) | (go_simp; rfl))
                 intro gb424 hg w189 hbox hb
                 have n0_ := Aside0.mk (Kd.R_below HO_384000.out hb)
                 have n1_ := Aside0.mk (Kd.R_below HO_388000.out hb)
                 have n2_ := Aside0.mk (Kd.R_below HO_392000.out hb)
                 have n3_ := Aside0.mk (Kd.R_below HO_397000.out hb)
                 have n4_ := Aside0.mk (Kd.R_below HO416.out hb)
                 have n5_ := Aside0.mk (Kd.R_below HO419.out hb)
                 have n6_ := Aside0.mk (Kd.R_below HO422.out hb)
                 have n7_ := Aside0.mk (blk_below BK369.out hb)
                 have n8_ := Aside0.mk (blk_below BK370.out hb)
                 have n9_ := Aside0.mk (blk_below BK383.out hb)
                 have n10_ := Aside0.mk (blk_below BK387.out hb)
                 have n11_ := Aside0.mk (blk_below BK391.out hb)
                 have n12_ := Aside0.mk (blk_below BK396.out hb)
                 have n13_ := Aside0.mk (below_step HB.out hb)
                 have n14_ := Aside0.mk (hbox)
                 have n15_ := Aside0.mk ((by rw [hg]; exact (below_size HB.out) : w.heap.size ≤ gb424))
                 have n16_ := Aside0.mk ((by rw [hg]; exact (below_size HB.out) : w.heap.size ≤ gb424))
                 have n17_ := Aside0.mk ((by rw [hg]; exact Nat.ne_of_lt (blk_lt BK369.out) : gb369 ≠ gb424))
                 have n18_ := Aside0.mk ((by rw [hg]; exact Nat.ne_of_gt (blk_lt BK369.out) : gb424 ≠ gb369))
                 have n19_ := Aside0.mk ((by rw [hg]; exact Nat.ne_of_lt (blk_lt BK370.out) : gb370 ≠ gb424))
                 have n20_ := Aside0.mk ((by rw [hg]; exact Nat.ne_of_gt (blk_lt BK370.out) : gb424 ≠ gb370))
                 have n21_ := Aside0.mk ((by rw [hg]; exact Nat.ne_of_lt (blk_lt BK383.out) : gb383 ≠ gb424))
                 have n22_ := Aside0.mk ((by rw [hg]; exact Nat.ne_of_gt (blk_lt BK383.out) : gb424 ≠ gb383))
                 have n23_ := Aside0.mk ((by rw [hg]; exact Nat.ne_of_lt (blk_lt BK387.out) : gb387 ≠ gb424))
                 have n24_ := Aside0.mk ((by rw [hg]; exact Nat.ne_of_gt (blk_lt BK387.out) : gb424 ≠ gb387))
                 have n25_ := Aside0.mk ((by rw [hg]; exact Nat.ne_of_lt (blk_lt BK391.out) : gb391 ≠ gb424))
                 have n26_ := Aside0.mk ((by rw [hg]; exact Nat.ne_of_gt (blk_lt BK391.out) : gb424 ≠ gb391))
                 have n27_ := Aside0.mk ((by rw [hg]; exact Nat.ne_of_lt (blk_lt BK396.out) : gb396 ≠ gb424))
                 have n28_ := Aside0.mk ((by rw [hg]; exact Nat.ne_of_gt (blk_lt BK396.out) : gb424 ≠ gb396))
                 revert n0_ n1_ n2_ n3_ n4_ n5_ n6_ n7_ n8_ n9_ n10_ n11_ n12_ n13_ n14_ n15_ n16_ n17_ n18_ n19_ n20_ n21_ n22_ n23_ n24_ n25_ n26_ n27_ n28_
                 clear HO_384000 HO_388000 HO_392000 HO_397000 HO416 HO419 HO422 BK369 BK370 BK383 BK387 BK391 BK396 HB
                 intro HO_384000 HO_388000 HO_392000 HO_397000 HO416 HO419 HO422 BK369 BK370 BK383 BK387 BK391 BK396 HB BK424 GW424 GE424 NB369_424 NB424_369 NB370_424 NB424_370 NB383_424 NB424_383 NB387_424 NB424_387 NB391_424 NB424_391 NB396_424 NB424_396
                 clear hb hbox hg
                 refine hK.out _ _ ⟨(blk_cell BK369.out 0).trans rfl, (blk_cell BK370.out 0).trans rfl⟩ (fun hHeld => ?_)
                 clear hK K
                 refine norm_ (a' := ?_) ?_ ?_
                 rotate_left
                 ·show Act.put _ (some 15) _ = _
                  simp only [Act.put, List.setIfInBounds_toArray, List.set_cons_zero, List.set_cons_succ, i64_w, i32_w]
                  rfl
                 exact norm_ (by simp only [putAll, Act.put, List.setIfInBounds_toArray, List.set_cons_zero, List.set_cons_succ]) (hCont (.slice Ao186 t414.length co186, .slice Ao187 t417.length co187, v421, gb424) _ ⟨hHeld, (Kd.R_mono HO416.out (fun _ hk => ⟨hk.1.2, ⟨hk.2, ⟨hk.1.1.1.1.1.2, ⟨hk.1.1.1.1.2, ⟨hk.1.1.1.2, hk.1.1.2⟩⟩⟩⟩⟩)), (Kd.R_mono HO419.out (fun _ hk => ⟨hk.1.2, ⟨hk.2, ⟨hk.1.1.1.1.1.2, ⟨hk.1.1.1.1.2, ⟨hk.1.1.1.2, hk.1.1.2⟩⟩⟩⟩⟩)), (Kd.R_mono HO422.out (fun _ hk => ⟨hk.1.2, ⟨hk.2, ⟨hk.1.1.1.1.1.2, ⟨hk.1.1.1.1.2, ⟨hk.1.1.1.2, hk.1.1.2⟩⟩⟩⟩⟩)), (Kd.R_mono HO_384000.out (fun _ hk => ⟨hk.1.1.2, ⟨hk.1.2, ⟨hk.2, ⟨hk.1.1.1.1, ⟨hk.1.1.1.2.1, hk.1.1.1.2.2⟩⟩⟩⟩⟩)), (Kd.R_mono HO_388000.out (fun _ hk => ⟨hk.1.1.2, ⟨hk.1.2, ⟨hk.2, ⟨hk.1.1.1.1, ⟨hk.1.1.1.2.1, hk.1.1.1.2.2⟩⟩⟩⟩⟩)), (Kd.R_mono HO_392000.out (fun _ hk => ⟨hk.1.1.2, ⟨hk.1.2, ⟨hk.2, ⟨hk.1.1.1.1, ⟨hk.1.1.1.2.1, hk.1.1.1.2.2⟩⟩⟩⟩⟩)), (Kd.R_mono HO_397000.out (fun _ hk => ⟨hk.1.1.2, ⟨hk.1.2, ⟨hk.2, ⟨hk.1.1.1.1, ⟨hk.1.1.1.2.1, hk.1.1.1.2.2⟩⟩⟩⟩⟩)), BK369.out, BK370.out, BK383.out, BK387.out, BK391.out, BK396.out, BK424.out, GW424.out, GE424.out, NB369_424.out, NB424_369.out, NB370_424.out, NB424_370.out, NB383_424.out, NB424_383.out, NB387_424.out, NB424_387.out, NB391_424.out, NB424_391.out, NB396_424.out, NB424_396.out, HB.out⟩)
                ·skip
                 refine box_step ?hg (N := 15) ?hd (cs := #[.slice none 0 0]) (t := 24) ?hr ?_; (case hd => rfl); (case hg => rfl); (case hr => first | (go_simp; done) | (go_simp; rfl))
                 intro gb424 hg w186 hbox hb
                 have n0_ := Aside0.mk (Kd.R_below HO_384000.out hb)
                 have n1_ := Aside0.mk (Kd.R_below HO_388000.out hb)
                 have n2_ := Aside0.mk (Kd.R_below HO_392000.out hb)
                 have n3_ := Aside0.mk (Kd.R_below HO_397000.out hb)
                 have n4_ := Aside0.mk (Kd.R_below HO416.out hb)
                 have n5_ := Aside0.mk (Kd.R_below HO419.out hb)
                 have n6_ := Aside0.mk (blk_below BK369.out hb)
                 have n7_ := Aside0.mk (blk_below BK370.out hb)
                 have n8_ := Aside0.mk (blk_below BK383.out hb)
                 have n9_ := Aside0.mk (blk_below BK387.out hb)
                 have n10_ := Aside0.mk (blk_below BK391.out hb)
                 have n11_ := Aside0.mk (blk_below BK396.out hb)
                 have n12_ := Aside0.mk (below_step HB.out hb)
                 have n13_ := Aside0.mk (hbox)
                 have n14_ := Aside0.mk ((by rw [hg]; exact (below_size HB.out) : w.heap.size ≤ gb424))
                 have n15_ := Aside0.mk ((by rw [hg]; exact (below_size HB.out) : w.heap.size ≤ gb424))
                 have n16_ := Aside0.mk ((by rw [hg]; exact Nat.ne_of_lt (blk_lt BK369.out) : gb369 ≠ gb424))
                 have n17_ := Aside0.mk ((by rw [hg]; exact Nat.ne_of_gt (blk_lt BK369.out) : gb424 ≠ gb369))
                 have n18_ := Aside0.mk ((by rw [hg]; exact Nat.ne_of_lt (blk_lt BK370.out) : gb370 ≠ gb424))
                 have n19_ := Aside0.mk ((by rw [hg]; exact Nat.ne_of_gt (blk_lt BK370.out) : gb424 ≠ gb370))
                 have n20_ := Aside0.mk ((by rw [hg]; exact Nat.ne_of_lt (blk_lt BK383.out) : gb383 ≠ gb424))
                 have n21_ := Aside0.mk ((by rw [hg]; exact Nat.ne_of_gt (blk_lt BK383.out) : gb424 ≠ gb383))
                 have n22_ := Aside0.mk ((by rw [hg]; exact Nat.ne_of_lt (blk_lt BK387.out) : gb387 ≠ gb424))
                 have n23_ := Aside0.mk ((by rw [hg]; exact Nat.ne_of_gt (blk_lt BK387.out) : gb424 ≠ gb387))
                 have n24_ := Aside0.mk ((by rw [hg]; exact Nat.ne_of_lt (blk_lt BK391.out) : gb391 ≠ gb424))
                 have n25_ := Aside0.mk ((by rw [hg]; exact Nat.ne_of_gt (blk_lt BK391.out) : gb424 ≠ gb391))
                 have n26_ := Aside0.mk ((by rw [hg]; exact Nat.ne_of_lt (blk_lt BK396.out) : gb396 ≠ gb424))
                 have n27_ := Aside0.mk ((by rw [hg]; exact Nat.ne_of_gt (blk_lt BK396.out) : gb424 ≠ gb396))
                 revert n0_ n1_ n2_ n3_ n4_ n5_ n6_ n7_ n8_ n9_ n10_ n11_ n12_ n13_ n14_ n15_ n16_ n17_ n18_ n19_ n20_ n21_ n22_ n23_ n24_ n25_ n26_ n27_
                 clear HO_384000 HO_388000 HO_392000 HO_397000 HO416 HO419 BK369 BK370 BK383 BK387 BK391 BK396 HB
                 intro HO_384000 HO_388000 HO_392000 HO_397000 HO416 HO419 BK369 BK370 BK383 BK387 BK391 BK396 HB BK424 GW424 GE424 NB369_424 NB424_369 NB370_424 NB424_370 NB383_424 NB424_383 NB387_424 NB424_387 NB391_424 NB424_391 NB396_424 NB424_396
                 clear hb hbox hg
                 obtain ⟨Ao187, co187, eo187⟩ := Kd.R_slice HO416.out
                 (first | subst eo187 | (injection eo187 with f1_ f2_ f3_; have f4_ := f1_.symm; have f5_ := f3_.symm; clear f1_ f2_ f3_; subst f4_; subst f5_))
                 obtain ⟨Ao188, co188, eo188⟩ := Kd.R_slice HO419.out
                 (first | subst eo188 | (injection eo188 with f1_ f2_ f3_; have f4_ := f1_.symm; have f5_ := f3_.symm; clear f1_ f2_ f3_; subst f4_; subst f5_))
                 refine hK.out _ _ ⟨(blk_cell BK369.out 0).trans rfl, (blk_cell BK370.out 0).trans rfl⟩ (fun hHeld => ?_)
                 clear hK K
                 refine norm_ (a' := ?_) ?_ ?_
                 rotate_left
                 ·show Act.put _ (some 15) _ = _
                  simp only [Act.put, List.setIfInBounds_toArray, List.set_cons_zero, List.set_cons_succ, i64_w, i32_w]
                  rfl
                 refine one_ (i := 4) (N := some 99) #[true, true, true, true, true, false, false, false, true, false, false] rfl rfl (one_of HT_.out (by kernel_rfl)) (by decide) (fun K hK => ?_)
                 refine goes_ Try.func15 (by kernel_rfl) rfl #[.agg #[.slice Ao187 t414.length co187], .agg #[.slice Ao188 t417.length co188]] (by rfl) rfl rfl (by (try simp only [List.map_toArray, List.map_cons, List.map_nil]); first | done | rfl | (simp only [List.length_drop, List.length_take]; rfl)) ?_
                 with_reducible refine (impl_MeetTries.calls _ _ t414 _ _ t417 t420 t423 _ ?side1 ?side2 ?side3 ?side4 A172.out).mono ?_
                 (case side1 => exact (Kd.R_reads' HO416.out).2.2)
                 (case side2 => exact (Kd.R_reads' HO416.out).2.1)
                 (case side3 => exact (Kd.R_reads' HO419.out).2.2)
                 (case side4 => exact (Kd.R_reads' HO419.out).2.1)
                 rintro e w189 ⟨v421, rfl, ho0, hb⟩
                 refine ⟨_, rfl, ?_⟩
                 have n0_ := Aside0.mk (Kd.R_elder' HO_384000.out (Kd.R_base ho0) hb)
                 have n1_ := Aside0.mk (Kd.R_elder' HO_388000.out (Kd.R_base ho0) hb)
                 have n2_ := Aside0.mk (Kd.R_elder' HO_392000.out (Kd.R_base ho0) hb)
                 have n3_ := Aside0.mk (Kd.R_elder' HO_397000.out (Kd.R_base ho0) hb)
                 have n4_ := Aside0.mk (Kd.R_elder' HO416.out (Kd.R_base ho0) hb)
                 have n5_ := Aside0.mk (Kd.R_elder' HO419.out (Kd.R_base ho0) hb)
                 have n6_ := Aside0.mk (Kd.R_lower (Kd.R_new' (Kd.R_new' (Kd.R_new' (Kd.R_new' (Kd.R_new' (Kd.R_new' ho0 (Kd.R_lt HO_384000.out)) (Kd.R_lt HO_388000.out)) (Kd.R_lt HO_392000.out)) (Kd.R_lt HO_397000.out)) (Kd.R_lt HO416.out)) (Kd.R_lt HO419.out)) (below_size HB.out))
                 have n7_ := Aside0.mk (blk_below BK369.out hb)
                 have n8_ := Aside0.mk (blk_below BK370.out hb)
                 have n9_ := Aside0.mk (blk_below BK383.out hb)
                 have n10_ := Aside0.mk (blk_below BK387.out hb)
                 have n11_ := Aside0.mk (blk_below BK391.out hb)
                 have n12_ := Aside0.mk (blk_below BK396.out hb)
                 have n13_ := Aside0.mk (blk_below BK424.out hb)
                 have n14_ := Aside0.mk (below_step HB.out hb)
                 revert n0_ n1_ n2_ n3_ n4_ n5_ n6_ n7_ n8_ n9_ n10_ n11_ n12_ n13_ n14_
                 clear HO_384000 HO_388000 HO_392000 HO_397000 HO416 HO419 BK369 BK370 BK383 BK387 BK391 BK396 BK424 HB
                 intro HO_384000 HO_388000 HO_392000 HO_397000 HO416 HO419 HO422 BK369 BK370 BK383 BK387 BK391 BK396 BK424 HB
                 (try clear hb)
                 (try clear hb2)
                 (try clear hk)
                 (try clear hi)
                 (try clear ho0)
                 refine hK.out _ _ ⟨(blk_cell BK369.out 0).trans rfl, (blk_cell BK370.out 0).trans rfl⟩ (fun hHeld => ?_)
                 clear hK K
                 refine norm_ (a' := ?_) ?_ ?_
                 rotate_left
                 ·show Act.put _ (some 99) _ = _
                  simp only [Act.put, List.setIfInBounds_toArray, List.set_cons_zero, List.set_cons_succ, i64_w, i32_w]
                  rfl
                 refine pure_ (i := 5) (N := some 94) (v := ?_) (a' := ?_) #[true, true, true, true, true, true, false, false, true, false, false] rfl rfl (any_of HT_.out (by kernel_rfl)) (fun _ _ _ h => h) (Or.inl ⟨by rfl, ?_⟩) ?_ ?_
                 rotate_left
                 ·intro w'
                  go_simp
                  with_reducible rfl
                 rotate_left
                 ·simp only [Act.put, List.setIfInBounds_toArray, List.set_cons_zero, List.set_cons_succ, i64_w, i32_w]
                  rfl
                 refine pure_ (i := 6) (N := some 100) (v := ?_) (a' := ?_) #[true, true, true, true, true, true, true, false, true, false, false] rfl rfl (any_of HT_.out (by kernel_rfl)) (fun _ _ _ h => h) (Or.inl ⟨by rfl, ?_⟩) ?_ ?_
                 rotate_left
                 ·intro w'
                  go_simp
                  with_reducible rfl
                 rotate_left
                 ·simp only [Act.put, List.setIfInBounds_toArray, List.set_cons_zero, List.set_cons_succ, i64_w, i32_w]
                  rfl
                 refine pure_ (i := 7) (N := some 101) (v := ?_) (a' := ?_) #[true, true, true, true, true, true, true, true, true, false, false] rfl rfl (any_of HT_.out (by kernel_rfl)) (fun _ _ _ h => h) (Or.inl ⟨by rfl, ?_⟩) ?_ ?_
                 rotate_left
                 ·intro w'
                  go_simp
                  with_reducible rfl
                 rotate_left
                 ·simp only [Act.put, List.setIfInBounds_toArray, List.set_cons_zero, List.set_cons_succ, i64_w, i32_w]
                  rfl
                 exact norm_ (by simp only [putAll, Act.put, List.setIfInBounds_toArray, List.set_cons_zero, List.set_cons_succ]) (hCont (.slice Ao187 t414.length co187, .slice Ao188 t417.length co188, v421, gb424) _ ⟨hHeld, (Kd.R_mono HO416.out (fun _ hk => ⟨hk.1.2, ⟨hk.2, ⟨hk.1.1.1.1.1.2, ⟨hk.1.1.1.1.2, ⟨hk.1.1.1.2, hk.1.1.2⟩⟩⟩⟩⟩)), (Kd.R_mono HO419.out (fun _ hk => ⟨hk.1.2, ⟨hk.2, ⟨hk.1.1.1.1.1.2, ⟨hk.1.1.1.1.2, ⟨hk.1.1.1.2, hk.1.1.2⟩⟩⟩⟩⟩)), (Kd.R_mono HO422.out (fun _ hk => ⟨hk.1.2, ⟨hk.2, ⟨hk.1.1.1.1.1.2, ⟨hk.1.1.1.1.2, ⟨hk.1.1.1.2, hk.1.1.2⟩⟩⟩⟩⟩)), (Kd.R_mono HO_384000.out (fun _ hk => ⟨hk.1.1.2, ⟨hk.1.2, ⟨hk.2, ⟨hk.1.1.1.1, ⟨hk.1.1.1.2.1, hk.1.1.1.2.2⟩⟩⟩⟩⟩)), (Kd.R_mono HO_388000.out (fun _ hk => ⟨hk.1.1.2, ⟨hk.1.2, ⟨hk.2, ⟨hk.1.1.1.1, ⟨hk.1.1.1.2.1, hk.1.1.1.2.2⟩⟩⟩⟩⟩)), (Kd.R_mono HO_392000.out (fun _ hk => ⟨hk.1.1.2, ⟨hk.1.2, ⟨hk.2, ⟨hk.1.1.1.1, ⟨hk.1.1.1.2.1, hk.1.1.1.2.2⟩⟩⟩⟩⟩)), (Kd.R_mono HO_397000.out (fun _ hk => ⟨hk.1.1.2, ⟨hk.1.2, ⟨hk.2, ⟨hk.1.1.1.1, ⟨hk.1.1.1.2.1, hk.1.1.1.2.2⟩⟩⟩⟩⟩)), BK369.out, BK370.out, BK383.out, BK387.out, BK391.out, BK396.out, BK424.out, GW424.out, GE424.out, NB369_424.out, NB424_369.out, NB370_424.out, NB424_370.out, NB383_424.out, NB424_383.out, NB387_424.out, NB424_387.out, NB391_424.out, NB424_391.out, NB396_424.out, NB424_396.out, HB.out⟩)
               ·skip
                refine box_step ?hg (N := 15) ?hd (cs := #[.slice none 0 0]) (t := 24) ?hr ?_; (case hd => rfl); (case hg => rfl); (case hr => first | (go_simp; done) | (go_simp; rfl))
                intro gb424 hg w185 hbox hb
                have n0_ := Aside0.mk (Kd.R_below HO_384000.out hb)
                have n1_ := Aside0.mk (Kd.R_below HO_388000.out hb)
                have n2_ := Aside0.mk (Kd.R_below HO_392000.out hb)
                have n3_ := Aside0.mk (Kd.R_below HO_397000.out hb)
                have n4_ := Aside0.mk (Kd.R_below HO416.out hb)
                have n5_ := Aside0.mk (blk_below BK369.out hb)
                have n6_ := Aside0.mk (blk_below BK370.out hb)
                have n7_ := Aside0.mk (blk_below BK383.out hb)
                have n8_ := Aside0.mk (blk_below BK387.out hb)
                have n9_ := Aside0.mk (blk_below BK391.out hb)
                have n10_ := Aside0.mk (blk_below BK396.out hb)
                have n11_ := Aside0.mk (below_step HB.out hb)
                have n12_ := Aside0.mk (hbox)
                have n13_ := Aside0.mk ((by rw [hg]; exact (below_size HB.out) : w.heap.size ≤ gb424))
                have n14_ := Aside0.mk ((by rw [hg]; exact (below_size HB.out) : w.heap.size ≤ gb424))
                have n15_ := Aside0.mk ((by rw [hg]; exact Nat.ne_of_lt (blk_lt BK369.out) : gb369 ≠ gb424))
                have n16_ := Aside0.mk ((by rw [hg]; exact Nat.ne_of_gt (blk_lt BK369.out) : gb424 ≠ gb369))
                have n17_ := Aside0.mk ((by rw [hg]; exact Nat.ne_of_lt (blk_lt BK370.out) : gb370 ≠ gb424))
                have n18_ := Aside0.mk ((by rw [hg]; exact Nat.ne_of_gt (blk_lt BK370.out) : gb424 ≠ gb370))
                have n19_ := Aside0.mk ((by rw [hg]; exact Nat.ne_of_lt (blk_lt BK383.out) : gb383 ≠ gb424))
                have n20_ := Aside0.mk ((by rw [hg]; exact Nat.ne_of_gt (blk_lt BK383.out) : gb424 ≠ gb383))
                have n21_ := Aside0.mk ((by rw [hg]; exact Nat.ne_of_lt (blk_lt BK387.out) : gb387 ≠ gb424))
                have n22_ := Aside0.mk ((by rw [hg]; exact Nat.ne_of_gt (blk_lt BK387.out) : gb424 ≠ gb387))
                have n23_ := Aside0.mk ((by rw [hg]; exact Nat.ne_of_lt (blk_lt BK391.out) : gb391 ≠ gb424))
                have n24_ := Aside0.mk ((by rw [hg]; exact Nat.ne_of_gt (blk_lt BK391.out) : gb424 ≠ gb391))
                have n25_ := Aside0.mk ((by rw [hg]; exact Nat.ne_of_lt (blk_lt BK396.out) : gb396 ≠ gb424))
                have n26_ := Aside0.mk ((by rw [hg]; exact Nat.ne_of_gt (blk_lt BK396.out) : gb424 ≠ gb396))
                revert n0_ n1_ n2_ n3_ n4_ n5_ n6_ n7_ n8_ n9_ n10_ n11_ n12_ n13_ n14_ n15_ n16_ n17_ n18_ n19_ n20_ n21_ n22_ n23_ n24_ n25_ n26_
                clear HO_384000 HO_388000 HO_392000 HO_397000 HO416 BK369 BK370 BK383 BK387 BK391 BK396 HB
                intro HO_384000 HO_388000 HO_392000 HO_397000 HO416 BK369 BK370 BK383 BK387 BK391 BK396 HB BK424 GW424 GE424 NB369_424 NB424_369 NB370_424 NB424_370 NB383_424 NB424_383 NB387_424 NB424_387 NB391_424 NB424_391 NB396_424 NB424_396
                clear hb hbox hg
                refine hK.out _ _ ⟨(blk_cell BK369.out 0).trans rfl, (blk_cell BK370.out 0).trans rfl⟩ (fun hHeld => ?_)
                clear hK K
                refine norm_ (a' := ?_) ?_ ?_
                rotate_left
                ·show Act.put _ (some 15) _ = _
                 simp only [Act.put, List.setIfInBounds_toArray, List.set_cons_zero, List.set_cons_succ, i64_w, i32_w]
                 rfl
                refine one_ (i := 3) (N := some 98) #[true, true, true, true, false, false, false, false, true, false, false] rfl rfl (one_of HT_.out (by kernel_rfl)) (by decide) (fun K hK => ?_)
                refine goes_ Try.func14 (by kernel_rfl) rfl #[.agg #[.slice A1_0 l1_0.length c1_0]] (by rfl) rfl rfl (by (try simp only [List.map_toArray, List.map_cons, List.map_nil]); first | done | rfl | (simp only [List.length_drop, List.length_take]; rfl)) ?_
                with_reducible refine (laws_toTrie.calls kj106 _ _ l1_0 t417 _ ?side1 ?side2 A171.out).mono ?_
                (case side1 => exact (Kd.C_below HR1_0.out HB.out))
                (case side2 => exact HC1_0.out)
                rintro e w186 ⟨v418, rfl, ho0, hb⟩
                refine ⟨_, rfl, ?_⟩
                have n0_ := Aside0.mk (Kd.R_elder' HO_384000.out (Kd.R_base ho0) hb)
                have n1_ := Aside0.mk (Kd.R_elder' HO_388000.out (Kd.R_base ho0) hb)
                have n2_ := Aside0.mk (Kd.R_elder' HO_392000.out (Kd.R_base ho0) hb)
                have n3_ := Aside0.mk (Kd.R_elder' HO_397000.out (Kd.R_base ho0) hb)
                have n4_ := Aside0.mk (Kd.R_elder' HO416.out (Kd.R_base ho0) hb)
                have n5_ := Aside0.mk (Kd.R_lower (Kd.R_new' (Kd.R_new' (Kd.R_new' (Kd.R_new' (Kd.R_new' ho0 (Kd.R_lt HO_384000.out)) (Kd.R_lt HO_388000.out)) (Kd.R_lt HO_392000.out)) (Kd.R_lt HO_397000.out)) (Kd.R_lt HO416.out)) (below_size HB.out))
                have n6_ := Aside0.mk (blk_below BK369.out hb)
                have n7_ := Aside0.mk (blk_below BK370.out hb)
                have n8_ := Aside0.mk (blk_below BK383.out hb)
                have n9_ := Aside0.mk (blk_below BK387.out hb)
                have n10_ := Aside0.mk (blk_below BK391.out hb)
                have n11_ := Aside0.mk (blk_below BK396.out hb)
                have n12_ := Aside0.mk (blk_below BK424.out hb)
                have n13_ := Aside0.mk (below_step HB.out hb)
                revert n0_ n1_ n2_ n3_ n4_ n5_ n6_ n7_ n8_ n9_ n10_ n11_ n12_ n13_
                clear HO_384000 HO_388000 HO_392000 HO_397000 HO416 BK369 BK370 BK383 BK387 BK391 BK396 BK424 HB
                intro HO_384000 HO_388000 HO_392000 HO_397000 HO416 HO419 BK369 BK370 BK383 BK387 BK391 BK396 BK424 HB
                (try clear hb)
                (try clear hb2)
                (try clear hk)
                (try clear hi)
                (try clear ho0)
                obtain ⟨Ao187, co187, eo187⟩ := Kd.R_slice HO416.out
                (first | subst eo187 | (injection eo187 with f1_ f2_ f3_; have f4_ := f1_.symm; have f5_ := f3_.symm; clear f1_ f2_ f3_; subst f4_; subst f5_))
                obtain ⟨Ao188, co188, eo188⟩ := Kd.R_slice HO419.out
                (first | subst eo188 | (injection eo188 with f1_ f2_ f3_; have f4_ := f1_.symm; have f5_ := f3_.symm; clear f1_ f2_ f3_; subst f4_; subst f5_))
                refine hK.out _ _ ⟨(blk_cell BK369.out 0).trans rfl, (blk_cell BK370.out 0).trans rfl⟩ (fun hHeld => ?_)
                clear hK K
                refine norm_ (a' := ?_) ?_ ?_
                rotate_left
                ·show Act.put _ (some 98) _ = _
                 simp only [Act.put, List.setIfInBounds_toArray, List.set_cons_zero, List.set_cons_succ, i64_w, i32_w]
                 rfl
                refine one_ (i := 4) (N := some 99) #[true, true, true, true, true, false, false, false, true, false, false] rfl rfl (one_of HT_.out (by kernel_rfl)) (by decide) (fun K hK => ?_)
                refine goes_ Try.func15 (by kernel_rfl) rfl #[.agg #[.slice Ao187 t414.length co187], .agg #[.slice Ao188 t417.length co188]] (by rfl) rfl rfl (by (try simp only [List.map_toArray, List.map_cons, List.map_nil]); first | done | rfl | (simp only [List.length_drop, List.length_take]; rfl)) ?_
                with_reducible refine (impl_MeetTries.calls _ _ t414 _ _ t417 t420 t423 _ ?side1 ?side2 ?side3 ?side4 A172.out).mono ?_
                (case side1 => exact (Kd.R_reads' HO416.out).2.2)
                (case side2 => exact (Kd.R_reads' HO416.out).2.1)
                (case side3 => exact (Kd.R_reads' HO419.out).2.2)
                (case side4 => exact (Kd.R_reads' HO419.out).2.1)
                rintro e w189 ⟨v421, rfl, ho0, hb⟩
                refine ⟨_, rfl, ?_⟩
                have n0_ := Aside0.mk (Kd.R_elder' HO_384000.out (Kd.R_base ho0) hb)
                have n1_ := Aside0.mk (Kd.R_elder' HO_388000.out (Kd.R_base ho0) hb)
                have n2_ := Aside0.mk (Kd.R_elder' HO_392000.out (Kd.R_base ho0) hb)
                have n3_ := Aside0.mk (Kd.R_elder' HO_397000.out (Kd.R_base ho0) hb)
                have n4_ := Aside0.mk (Kd.R_elder' HO416.out (Kd.R_base ho0) hb)
                have n5_ := Aside0.mk (Kd.R_elder' HO419.out (Kd.R_base ho0) hb)
                have n6_ := Aside0.mk (Kd.R_lower (Kd.R_new' (Kd.R_new' (Kd.R_new' (Kd.R_new' (Kd.R_new' (Kd.R_new' ho0 (Kd.R_lt HO_384000.out)) (Kd.R_lt HO_388000.out)) (Kd.R_lt HO_392000.out)) (Kd.R_lt HO_397000.out)) (Kd.R_lt HO416.out)) (Kd.R_lt HO419.out)) (below_size HB.out))
                have n7_ := Aside0.mk (blk_below BK369.out hb)
                have n8_ := Aside0.mk (blk_below BK370.out hb)
                have n9_ := Aside0.mk (blk_below BK383.out hb)
                have n10_ := Aside0.mk (blk_below BK387.out hb)
                have n11_ := Aside0.mk (blk_below BK391.out hb)
                have n12_ := Aside0.mk (blk_below BK396.out hb)
                have n13_ := Aside0.mk (blk_below BK424.out hb)
                have n14_ := Aside0.mk (below_step HB.out hb)
                revert n0_ n1_ n2_ n3_ n4_ n5_ n6_ n7_ n8_ n9_ n10_ n11_ n12_ n13_ n14_
                clear HO_384000 HO_388000 HO_392000 HO_397000 HO416 HO419 BK369 BK370 BK383 BK387 BK391 BK396 BK424 HB
                intro HO_384000 HO_388000 HO_392000 HO_397000 HO416 HO419 HO422 BK369 BK370 BK383 BK387 BK391 BK396 BK424 HB
                (try clear hb)
                (try clear hb2)
                (try clear hk)
                (try clear hi)
                (try clear ho0)
                refine hK.out _ _ ⟨(blk_cell BK369.out 0).trans rfl, (blk_cell BK370.out 0).trans rfl⟩ (fun hHeld => ?_)
                clear hK K
                refine norm_ (a' := ?_) ?_ ?_
                rotate_left
                ·show Act.put _ (some 99) _ = _
                 simp only [Act.put, List.setIfInBounds_toArray, List.set_cons_zero, List.set_cons_succ, i64_w, i32_w]
                 rfl
                refine pure_ (i := 5) (N := some 94) (v := ?_) (a' := ?_) #[true, true, true, true, true, true, false, false, true, false, false] rfl rfl (any_of HT_.out (by kernel_rfl)) (fun _ _ _ h => h) (Or.inl ⟨by rfl, ?_⟩) ?_ ?_
                rotate_left
                ·intro w'
                 go_simp
                 with_reducible rfl
                rotate_left
                ·simp only [Act.put, List.setIfInBounds_toArray, List.set_cons_zero, List.set_cons_succ, i64_w, i32_w]
                 rfl
                refine pure_ (i := 6) (N := some 100) (v := ?_) (a' := ?_) #[true, true, true, true, true, true, true, false, true, false, false] rfl rfl (any_of HT_.out (by kernel_rfl)) (fun _ _ _ h => h) (Or.inl ⟨by rfl, ?_⟩) ?_ ?_
                rotate_left
                ·intro w'
                 go_simp
                 with_reducible rfl
                rotate_left
                ·simp only [Act.put, List.setIfInBounds_toArray, List.set_cons_zero, List.set_cons_succ, i64_w, i32_w]
                 rfl
                refine pure_ (i := 7) (N := some 101) (v := ?_) (a' := ?_) #[true, true, true, true, true, true, true, true, true, false, false] rfl rfl (any_of HT_.out (by kernel_rfl)) (fun _ _ _ h => h) (Or.inl ⟨by rfl, ?_⟩) ?_ ?_
                rotate_left
                ·intro w'
                 go_simp
                 with_reducible rfl
                rotate_left
                ·simp only [Act.put, List.setIfInBounds_toArray, List.set_cons_zero, List.set_cons_succ, i64_w, i32_w]
                 rfl
                exact norm_ (by simp only [putAll, Act.put, List.setIfInBounds_toArray, List.set_cons_zero, List.set_cons_succ]) (hCont (.slice Ao187 t414.length co187, .slice Ao188 t417.length co188, v421, gb424) _ ⟨hHeld, (Kd.R_mono HO416.out (fun _ hk => ⟨hk.1.2, ⟨hk.2, ⟨hk.1.1.1.1.1.2, ⟨hk.1.1.1.1.2, ⟨hk.1.1.1.2, hk.1.1.2⟩⟩⟩⟩⟩)), (Kd.R_mono HO419.out (fun _ hk => ⟨hk.1.2, ⟨hk.2, ⟨hk.1.1.1.1.1.2, ⟨hk.1.1.1.1.2, ⟨hk.1.1.1.2, hk.1.1.2⟩⟩⟩⟩⟩)), (Kd.R_mono HO422.out (fun _ hk => ⟨hk.1.2, ⟨hk.2, ⟨hk.1.1.1.1.1.2, ⟨hk.1.1.1.1.2, ⟨hk.1.1.1.2, hk.1.1.2⟩⟩⟩⟩⟩)), (Kd.R_mono HO_384000.out (fun _ hk => ⟨hk.1.1.2, ⟨hk.1.2, ⟨hk.2, ⟨hk.1.1.1.1, ⟨hk.1.1.1.2.1, hk.1.1.1.2.2⟩⟩⟩⟩⟩)), (Kd.R_mono HO_388000.out (fun _ hk => ⟨hk.1.1.2, ⟨hk.1.2, ⟨hk.2, ⟨hk.1.1.1.1, ⟨hk.1.1.1.2.1, hk.1.1.1.2.2⟩⟩⟩⟩⟩)), (Kd.R_mono HO_392000.out (fun _ hk => ⟨hk.1.1.2, ⟨hk.1.2, ⟨hk.2, ⟨hk.1.1.1.1, ⟨hk.1.1.1.2.1, hk.1.1.1.2.2⟩⟩⟩⟩⟩)), (Kd.R_mono HO_397000.out (fun _ hk => ⟨hk.1.1.2, ⟨hk.1.2, ⟨hk.2, ⟨hk.1.1.1.1, ⟨hk.1.1.1.2.1, hk.1.1.1.2.2⟩⟩⟩⟩⟩)), BK369.out, BK370.out, BK383.out, BK387.out, BK391.out, BK396.out, BK424.out, GW424.out, GE424.out, NB369_424.out, NB424_369.out, NB370_424.out, NB424_370.out, NB383_424.out, NB424_383.out, NB387_424.out, NB424_387.out, NB391_424.out, NB424_391.out, NB396_424.out, NB424_396.out, HB.out⟩)
              ·skip
               refine box_step ?hg (N := 15) ?hd (cs := #[.slice none 0 0]) (t := 24) ?hr ?_; (case hd => rfl); (case hg => rfl); (case hr => first | (go_simp; done) | (go_simp; rfl))
               intro gb424 hg w184 hbox hb
               have n0_ := Aside0.mk (Kd.R_below HO_384000.out hb)
               have n1_ := Aside0.mk (Kd.R_below HO_388000.out hb)
               have n2_ := Aside0.mk (Kd.R_below HO_392000.out hb)
               have n3_ := Aside0.mk (Kd.R_below HO_397000.out hb)
               have n4_ := Aside0.mk (blk_below BK369.out hb)
               have n5_ := Aside0.mk (blk_below BK370.out hb)
               have n6_ := Aside0.mk (blk_below BK383.out hb)
               have n7_ := Aside0.mk (blk_below BK387.out hb)
               have n8_ := Aside0.mk (blk_below BK391.out hb)
               have n9_ := Aside0.mk (blk_below BK396.out hb)
               have n10_ := Aside0.mk (below_step HB.out hb)
               have n11_ := Aside0.mk (hbox)
               have n12_ := Aside0.mk ((by rw [hg]; exact (below_size HB.out) : w.heap.size ≤ gb424))
               have n13_ := Aside0.mk ((by rw [hg]; exact (below_size HB.out) : w.heap.size ≤ gb424))
               have n14_ := Aside0.mk ((by rw [hg]; exact Nat.ne_of_lt (blk_lt BK369.out) : gb369 ≠ gb424))
               have n15_ := Aside0.mk ((by rw [hg]; exact Nat.ne_of_gt (blk_lt BK369.out) : gb424 ≠ gb369))
               have n16_ := Aside0.mk ((by rw [hg]; exact Nat.ne_of_lt (blk_lt BK370.out) : gb370 ≠ gb424))
               have n17_ := Aside0.mk ((by rw [hg]; exact Nat.ne_of_gt (blk_lt BK370.out) : gb424 ≠ gb370))
               have n18_ := Aside0.mk ((by rw [hg]; exact Nat.ne_of_lt (blk_lt BK383.out) : gb383 ≠ gb424))
               have n19_ := Aside0.mk ((by rw [hg]; exact Nat.ne_of_gt (blk_lt BK383.out) : gb424 ≠ gb383))
               have n20_ := Aside0.mk ((by rw [hg]; exact Nat.ne_of_lt (blk_lt BK387.out) : gb387 ≠ gb424))
               have n21_ := Aside0.mk ((by rw [hg]; exact Nat.ne_of_gt (blk_lt BK387.out) : gb424 ≠ gb387))
               have n22_ := Aside0.mk ((by rw [hg]; exact Nat.ne_of_lt (blk_lt BK391.out) : gb391 ≠ gb424))
               have n23_ := Aside0.mk ((by rw [hg]; exact Nat.ne_of_gt (blk_lt BK391.out) : gb424 ≠ gb391))
               have n24_ := Aside0.mk ((by rw [hg]; exact Nat.ne_of_lt (blk_lt BK396.out) : gb396 ≠ gb424))
               have n25_ := Aside0.mk ((by rw [hg]; exact Nat.ne_of_gt (blk_lt BK396.out) : gb424 ≠ gb396))
               revert n0_ n1_ n2_ n3_ n4_ n5_ n6_ n7_ n8_ n9_ n10_ n11_ n12_ n13_ n14_ n15_ n16_ n17_ n18_ n19_ n20_ n21_ n22_ n23_ n24_ n25_
               clear HO_384000 HO_388000 HO_392000 HO_397000 BK369 BK370 BK383 BK387 BK391 BK396 HB
               intro HO_384000 HO_388000 HO_392000 HO_397000 BK369 BK370 BK383 BK387 BK391 BK396 HB BK424 GW424 GE424 NB369_424 NB424_369 NB370_424 NB424_370 NB383_424 NB424_383 NB387_424 NB424_387 NB391_424 NB424_391 NB396_424 NB424_396
               clear hb hbox hg
               refine hK.out _ _ ⟨(blk_cell BK369.out 0).trans rfl, (blk_cell BK370.out 0).trans rfl⟩ (fun hHeld => ?_)
               clear hK K
               refine norm_ (a' := ?_) ?_ ?_
               rotate_left
               ·show Act.put _ (some 15) _ = _
                simp only [Act.put, List.setIfInBounds_toArray, List.set_cons_zero, List.set_cons_succ, i64_w, i32_w]
                rfl
               refine one_ (i := 1) (N := some 96) #[true, true, true, false, false, false, false, false, true, false, false] rfl rfl (one_of HT_.out (by kernel_rfl)) (by decide) (fun K hK => ?_)
               refine goes_ Try.func14 (by kernel_rfl) rfl #[.agg #[.slice A0_0 l0_0.length c0_0]] (by rfl) rfl rfl (by (try simp only [List.map_toArray, List.map_cons, List.map_nil]); first | done | rfl | (simp only [List.length_drop, List.length_take]; rfl)) ?_
               with_reducible refine (laws_toTrie.calls kj106 _ _ l0_0 t414 _ ?side1 ?side2 A170.out).mono ?_
               (case side1 => exact (Kd.C_below HR0_0.out HB.out))
               (case side2 => exact HC0_0.out)
               rintro e w185 ⟨v415, rfl, ho0, hb⟩
               refine ⟨_, rfl, ?_⟩
               have n0_ := Aside0.mk (Kd.R_elder' HO_384000.out (Kd.R_base ho0) hb)
               have n1_ := Aside0.mk (Kd.R_elder' HO_388000.out (Kd.R_base ho0) hb)
               have n2_ := Aside0.mk (Kd.R_elder' HO_392000.out (Kd.R_base ho0) hb)
               have n3_ := Aside0.mk (Kd.R_elder' HO_397000.out (Kd.R_base ho0) hb)
               have n4_ := Aside0.mk (Kd.R_lower (Kd.R_new' (Kd.R_new' (Kd.R_new' (Kd.R_new' ho0 (Kd.R_lt HO_384000.out)) (Kd.R_lt HO_388000.out)) (Kd.R_lt HO_392000.out)) (Kd.R_lt HO_397000.out)) (below_size HB.out))
               have n5_ := Aside0.mk (blk_below BK369.out hb)
               have n6_ := Aside0.mk (blk_below BK370.out hb)
               have n7_ := Aside0.mk (blk_below BK383.out hb)
               have n8_ := Aside0.mk (blk_below BK387.out hb)
               have n9_ := Aside0.mk (blk_below BK391.out hb)
               have n10_ := Aside0.mk (blk_below BK396.out hb)
               have n11_ := Aside0.mk (blk_below BK424.out hb)
               have n12_ := Aside0.mk (below_step HB.out hb)
               revert n0_ n1_ n2_ n3_ n4_ n5_ n6_ n7_ n8_ n9_ n10_ n11_ n12_
               clear HO_384000 HO_388000 HO_392000 HO_397000 BK369 BK370 BK383 BK387 BK391 BK396 BK424 HB
               intro HO_384000 HO_388000 HO_392000 HO_397000 HO416 BK369 BK370 BK383 BK387 BK391 BK396 BK424 HB
               (try clear hb)
               (try clear hb2)
               (try clear hk)
               (try clear hi)
               (try clear ho0)
               refine hK.out _ _ ⟨(blk_cell BK369.out 0).trans rfl, (blk_cell BK370.out 0).trans rfl⟩ (fun hHeld => ?_)
               clear hK K
               refine norm_ (a' := ?_) ?_ ?_
               rotate_left
               ·show Act.put _ (some 96) _ = _
                simp only [Act.put, List.setIfInBounds_toArray, List.set_cons_zero, List.set_cons_succ, i64_w, i32_w]
                rfl
               refine one_ (i := 3) (N := some 98) #[true, true, true, true, false, false, false, false, true, false, false] rfl rfl (one_of HT_.out (by kernel_rfl)) (by decide) (fun K hK => ?_)
               refine goes_ Try.func14 (by kernel_rfl) rfl #[.agg #[.slice A1_0 l1_0.length c1_0]] (by rfl) rfl rfl (by (try simp only [List.map_toArray, List.map_cons, List.map_nil]); first | done | rfl | (simp only [List.length_drop, List.length_take]; rfl)) ?_
               with_reducible refine (laws_toTrie.calls kj106 _ _ l1_0 t417 _ ?side1 ?side2 A171.out).mono ?_
               (case side1 => exact (Kd.C_below HR1_0.out HB.out))
               (case side2 => exact HC1_0.out)
               rintro e w186 ⟨v418, rfl, ho0, hb⟩
               refine ⟨_, rfl, ?_⟩
               have n0_ := Aside0.mk (Kd.R_elder' HO_384000.out (Kd.R_base ho0) hb)
               have n1_ := Aside0.mk (Kd.R_elder' HO_388000.out (Kd.R_base ho0) hb)
               have n2_ := Aside0.mk (Kd.R_elder' HO_392000.out (Kd.R_base ho0) hb)
               have n3_ := Aside0.mk (Kd.R_elder' HO_397000.out (Kd.R_base ho0) hb)
               have n4_ := Aside0.mk (Kd.R_elder' HO416.out (Kd.R_base ho0) hb)
               have n5_ := Aside0.mk (Kd.R_lower (Kd.R_new' (Kd.R_new' (Kd.R_new' (Kd.R_new' (Kd.R_new' ho0 (Kd.R_lt HO_384000.out)) (Kd.R_lt HO_388000.out)) (Kd.R_lt HO_392000.out)) (Kd.R_lt HO_397000.out)) (Kd.R_lt HO416.out)) (below_size HB.out))
               have n6_ := Aside0.mk (blk_below BK369.out hb)
               have n7_ := Aside0.mk (blk_below BK370.out hb)
               have n8_ := Aside0.mk (blk_below BK383.out hb)
               have n9_ := Aside0.mk (blk_below BK387.out hb)
               have n10_ := Aside0.mk (blk_below BK391.out hb)
               have n11_ := Aside0.mk (blk_below BK396.out hb)
               have n12_ := Aside0.mk (blk_below BK424.out hb)
               have n13_ := Aside0.mk (below_step HB.out hb)
               revert n0_ n1_ n2_ n3_ n4_ n5_ n6_ n7_ n8_ n9_ n10_ n11_ n12_ n13_
               clear HO_384000 HO_388000 HO_392000 HO_397000 HO416 BK369 BK370 BK383 BK387 BK391 BK396 BK424 HB
               intro HO_384000 HO_388000 HO_392000 HO_397000 HO416 HO419 BK369 BK370 BK383 BK387 BK391 BK396 BK424 HB
               (try clear hb)
               (try clear hb2)
               (try clear hk)
               (try clear hi)
               (try clear ho0)
               obtain ⟨Ao187, co187, eo187⟩ := Kd.R_slice HO416.out
               (first | subst eo187 | (injection eo187 with f1_ f2_ f3_; have f4_ := f1_.symm; have f5_ := f3_.symm; clear f1_ f2_ f3_; subst f4_; subst f5_))
               obtain ⟨Ao188, co188, eo188⟩ := Kd.R_slice HO419.out
               (first | subst eo188 | (injection eo188 with f1_ f2_ f3_; have f4_ := f1_.symm; have f5_ := f3_.symm; clear f1_ f2_ f3_; subst f4_; subst f5_))
               refine hK.out _ _ ⟨(blk_cell BK369.out 0).trans rfl, (blk_cell BK370.out 0).trans rfl⟩ (fun hHeld => ?_)
               clear hK K
               refine norm_ (a' := ?_) ?_ ?_
               rotate_left
               ·show Act.put _ (some 98) _ = _
                simp only [Act.put, List.setIfInBounds_toArray, List.set_cons_zero, List.set_cons_succ, i64_w, i32_w]
                rfl
               refine one_ (i := 4) (N := some 99) #[true, true, true, true, true, false, false, false, true, false, false] rfl rfl (one_of HT_.out (by kernel_rfl)) (by decide) (fun K hK => ?_)
               refine goes_ Try.func15 (by kernel_rfl) rfl #[.agg #[.slice Ao187 t414.length co187], .agg #[.slice Ao188 t417.length co188]] (by rfl) rfl rfl (by (try simp only [List.map_toArray, List.map_cons, List.map_nil]); first | done | rfl | (simp only [List.length_drop, List.length_take]; rfl)) ?_
               with_reducible refine (impl_MeetTries.calls _ _ t414 _ _ t417 t420 t423 _ ?side1 ?side2 ?side3 ?side4 A172.out).mono ?_
               (case side1 => exact (Kd.R_reads' HO416.out).2.2)
               (case side2 => exact (Kd.R_reads' HO416.out).2.1)
               (case side3 => exact (Kd.R_reads' HO419.out).2.2)
               (case side4 => exact (Kd.R_reads' HO419.out).2.1)
               rintro e w189 ⟨v421, rfl, ho0, hb⟩
               refine ⟨_, rfl, ?_⟩
               have n0_ := Aside0.mk (Kd.R_elder' HO_384000.out (Kd.R_base ho0) hb)
               have n1_ := Aside0.mk (Kd.R_elder' HO_388000.out (Kd.R_base ho0) hb)
               have n2_ := Aside0.mk (Kd.R_elder' HO_392000.out (Kd.R_base ho0) hb)
               have n3_ := Aside0.mk (Kd.R_elder' HO_397000.out (Kd.R_base ho0) hb)
               have n4_ := Aside0.mk (Kd.R_elder' HO416.out (Kd.R_base ho0) hb)
               have n5_ := Aside0.mk (Kd.R_elder' HO419.out (Kd.R_base ho0) hb)
               have n6_ := Aside0.mk (Kd.R_lower (Kd.R_new' (Kd.R_new' (Kd.R_new' (Kd.R_new' (Kd.R_new' (Kd.R_new' ho0 (Kd.R_lt HO_384000.out)) (Kd.R_lt HO_388000.out)) (Kd.R_lt HO_392000.out)) (Kd.R_lt HO_397000.out)) (Kd.R_lt HO416.out)) (Kd.R_lt HO419.out)) (below_size HB.out))
               have n7_ := Aside0.mk (blk_below BK369.out hb)
               have n8_ := Aside0.mk (blk_below BK370.out hb)
               have n9_ := Aside0.mk (blk_below BK383.out hb)
               have n10_ := Aside0.mk (blk_below BK387.out hb)
               have n11_ := Aside0.mk (blk_below BK391.out hb)
               have n12_ := Aside0.mk (blk_below BK396.out hb)
               have n13_ := Aside0.mk (blk_below BK424.out hb)
               have n14_ := Aside0.mk (below_step HB.out hb)
               revert n0_ n1_ n2_ n3_ n4_ n5_ n6_ n7_ n8_ n9_ n10_ n11_ n12_ n13_ n14_
               clear HO_384000 HO_388000 HO_392000 HO_397000 HO416 HO419 BK369 BK370 BK383 BK387 BK391 BK396 BK424 HB
               intro HO_384000 HO_388000 HO_392000 HO_397000 HO416 HO419 HO422 BK369 BK370 BK383 BK387 BK391 BK396 BK424 HB
               (try clear hb)
               (try clear hb2)
               (try clear hk)
               (try clear hi)
               (try clear ho0)
               refine hK.out _ _ ⟨(blk_cell BK369.out 0).trans rfl, (blk_cell BK370.out 0).trans rfl⟩ (fun hHeld => ?_)
               clear hK K
               refine norm_ (a' := ?_) ?_ ?_
               rotate_left
               ·show Act.put _ (some 99) _ = _
                simp only [Act.put, List.setIfInBounds_toArray, List.set_cons_zero, List.set_cons_succ, i64_w, i32_w]
                rfl
               refine pure_ (i := 5) (N := some 94) (v := ?_) (a' := ?_) #[true, true, true, true, true, true, false, false, true, false, false] rfl rfl (any_of HT_.out (by kernel_rfl)) (fun _ _ _ h => h) (Or.inl ⟨by rfl, ?_⟩) ?_ ?_
               rotate_left
               ·intro w'
                go_simp
                with_reducible rfl
               rotate_left
               ·simp only [Act.put, List.setIfInBounds_toArray, List.set_cons_zero, List.set_cons_succ, i64_w, i32_w]
                rfl
               refine pure_ (i := 6) (N := some 100) (v := ?_) (a' := ?_) #[true, true, true, true, true, true, true, false, true, false, false] rfl rfl (any_of HT_.out (by kernel_rfl)) (fun _ _ _ h => h) (Or.inl ⟨by rfl, ?_⟩) ?_ ?_
               rotate_left
               ·intro w'
                go_simp
                with_reducible rfl
               rotate_left
               ·simp only [Act.put, List.setIfInBounds_toArray, List.set_cons_zero, List.set_cons_succ, i64_w, i32_w]
                rfl
               refine pure_ (i := 7) (N := some 101) (v := ?_) (a' := ?_) #[true, true, true, true, true, true, true, true, true, false, false] rfl rfl (any_of HT_.out (by kernel_rfl)) (fun _ _ _ h => h) (Or.inl ⟨by rfl, ?_⟩) ?_ ?_
               rotate_left
               ·intro w'
                go_simp
                with_reducible rfl
               rotate_left
               ·simp only [Act.put, List.setIfInBounds_toArray, List.set_cons_zero, List.set_cons_succ, i64_w, i32_w]
                rfl
               exact norm_ (by simp only [putAll, Act.put, List.setIfInBounds_toArray, List.set_cons_zero, List.set_cons_succ]) (hCont (.slice Ao187 t414.length co187, .slice Ao188 t417.length co188, v421, gb424) _ ⟨hHeld, (Kd.R_mono HO416.out (fun _ hk => ⟨hk.1.2, ⟨hk.2, ⟨hk.1.1.1.1.1.2, ⟨hk.1.1.1.1.2, ⟨hk.1.1.1.2, hk.1.1.2⟩⟩⟩⟩⟩)), (Kd.R_mono HO419.out (fun _ hk => ⟨hk.1.2, ⟨hk.2, ⟨hk.1.1.1.1.1.2, ⟨hk.1.1.1.1.2, ⟨hk.1.1.1.2, hk.1.1.2⟩⟩⟩⟩⟩)), (Kd.R_mono HO422.out (fun _ hk => ⟨hk.1.2, ⟨hk.2, ⟨hk.1.1.1.1.1.2, ⟨hk.1.1.1.1.2, ⟨hk.1.1.1.2, hk.1.1.2⟩⟩⟩⟩⟩)), (Kd.R_mono HO_384000.out (fun _ hk => ⟨hk.1.1.2, ⟨hk.1.2, ⟨hk.2, ⟨hk.1.1.1.1, ⟨hk.1.1.1.2.1, hk.1.1.1.2.2⟩⟩⟩⟩⟩)), (Kd.R_mono HO_388000.out (fun _ hk => ⟨hk.1.1.2, ⟨hk.1.2, ⟨hk.2, ⟨hk.1.1.1.1, ⟨hk.1.1.1.2.1, hk.1.1.1.2.2⟩⟩⟩⟩⟩)), (Kd.R_mono HO_392000.out (fun _ hk => ⟨hk.1.1.2, ⟨hk.1.2, ⟨hk.2, ⟨hk.1.1.1.1, ⟨hk.1.1.1.2.1, hk.1.1.1.2.2⟩⟩⟩⟩⟩)), (Kd.R_mono HO_397000.out (fun _ hk => ⟨hk.1.1.2, ⟨hk.1.2, ⟨hk.2, ⟨hk.1.1.1.1, ⟨hk.1.1.1.2.1, hk.1.1.1.2.2⟩⟩⟩⟩⟩)), BK369.out, BK370.out, BK383.out, BK387.out, BK391.out, BK396.out, BK424.out, GW424.out, GE424.out, NB369_424.out, NB424_369.out, NB370_424.out, NB424_370.out, NB383_424.out, NB424_383.out, NB387_424.out, NB424_387.out, NB391_424.out, NB424_391.out, NB396_424.out, NB424_396.out, HB.out⟩)
             rintro ⟨v415, v418, v421, gb424⟩ w190 ⟨hS_, h0_, h1_, h2_, h3_, h4_, h5_, h6_, h7_, h8_, h9_, h10_, h11_, h12_, h13_, h14_, h15_, h16_, h17_, h18_, h19_, h20_, h21_, h22_, h23_, h24_, h25_, h26_, h27_, h28_⟩
             have n0_ : Aside0 (Kd.R k67 67 w190 w.heap.size (fun k_ => some k_ ≠ (v418 : Value).ownBlock ∧ some k_ ≠ (v421 : Value).ownBlock ∧ some k_ ≠ (.slice Ao41 t379.length co41 : Value).ownBlock ∧ some k_ ≠ (.slice Ao47 t407.length co47 : Value).ownBlock ∧ some k_ ≠ (.slice Ao56 t409.length co56 : Value).ownBlock ∧ some k_ ≠ (.slice Ao65 t392.length co65 : Value).ownBlock) v415 t414) := ⟨h0_⟩
             have n1_ : Aside0 (Kd.R k67 67 w190 w.heap.size (fun k_ => some k_ ≠ (v415 : Value).ownBlock ∧ some k_ ≠ (v421 : Value).ownBlock ∧ some k_ ≠ (.slice Ao41 t379.length co41 : Value).ownBlock ∧ some k_ ≠ (.slice Ao47 t407.length co47 : Value).ownBlock ∧ some k_ ≠ (.slice Ao56 t409.length co56 : Value).ownBlock ∧ some k_ ≠ (.slice Ao65 t392.length co65 : Value).ownBlock) v418 t417) := ⟨h1_⟩
             have n2_ : Aside0 (Kd.R k67 67 w190 w.heap.size (fun k_ => some k_ ≠ (v415 : Value).ownBlock ∧ some k_ ≠ (v418 : Value).ownBlock ∧ some k_ ≠ (.slice Ao41 t379.length co41 : Value).ownBlock ∧ some k_ ≠ (.slice Ao47 t407.length co47 : Value).ownBlock ∧ some k_ ≠ (.slice Ao56 t409.length co56 : Value).ownBlock ∧ some k_ ≠ (.slice Ao65 t392.length co65 : Value).ownBlock) v421 t420) := ⟨h2_⟩
             have n3_ : Aside0 (Kd.R k67 67 w190 w.heap.size (fun k_ => some k_ ≠ (v415 : Value).ownBlock ∧ some k_ ≠ (v418 : Value).ownBlock ∧ some k_ ≠ (v421 : Value).ownBlock ∧ some k_ ≠ (.slice Ao47 t407.length co47 : Value).ownBlock ∧ some k_ ≠ (.slice Ao56 t409.length co56 : Value).ownBlock ∧ some k_ ≠ (.slice Ao65 t392.length co65 : Value).ownBlock) (.slice Ao41 t379.length co41) t379) := ⟨h3_⟩
             have n4_ : Aside0 (Kd.R k67 67 w190 w.heap.size (fun k_ => some k_ ≠ (v415 : Value).ownBlock ∧ some k_ ≠ (v418 : Value).ownBlock ∧ some k_ ≠ (v421 : Value).ownBlock ∧ some k_ ≠ (.slice Ao41 t379.length co41 : Value).ownBlock ∧ some k_ ≠ (.slice Ao56 t409.length co56 : Value).ownBlock ∧ some k_ ≠ (.slice Ao65 t392.length co65 : Value).ownBlock) (.slice Ao47 t407.length co47) t407) := ⟨h4_⟩
             have n5_ : Aside0 (Kd.R k67 67 w190 w.heap.size (fun k_ => some k_ ≠ (v415 : Value).ownBlock ∧ some k_ ≠ (v418 : Value).ownBlock ∧ some k_ ≠ (v421 : Value).ownBlock ∧ some k_ ≠ (.slice Ao41 t379.length co41 : Value).ownBlock ∧ some k_ ≠ (.slice Ao47 t407.length co47 : Value).ownBlock ∧ some k_ ≠ (.slice Ao65 t392.length co65 : Value).ownBlock) (.slice Ao56 t409.length co56) t409) := ⟨h5_⟩
             have n6_ : Aside0 (Kd.R k67 67 w190 w.heap.size (fun k_ => some k_ ≠ (v415 : Value).ownBlock ∧ some k_ ≠ (v418 : Value).ownBlock ∧ some k_ ≠ (v421 : Value).ownBlock ∧ some k_ ≠ (.slice Ao41 t379.length co41 : Value).ownBlock ∧ some k_ ≠ (.slice Ao47 t407.length co47 : Value).ownBlock ∧ some k_ ≠ (.slice Ao56 t409.length co56 : Value).ownBlock) (.slice Ao65 t392.length co65) t412) := ⟨h6_⟩
             have n7_ : Aside0 (w190.heap[gb369]? = some (.cells #[.slice A0_0 l0_0.length c0_0] 32 (0, 0))) := ⟨h7_⟩
             have n8_ : Aside0 (w190.heap[gb370]? = some (.cells #[.slice A1_0 l1_0.length c1_0] 32 (0, 0))) := ⟨h8_⟩
             have n9_ : Aside0 (w190.heap[gb383]? = some (.cells #[.slice Ao41 t379.length co41] 24 (0, 0))) := ⟨h9_⟩
             have n10_ : Aside0 (w190.heap[gb387]? = some (.cells #[.slice Ao47 t407.length co47] 24 (0, 0))) := ⟨h10_⟩
             have n11_ : Aside0 (w190.heap[gb391]? = some (.cells #[.slice Ao56 t409.length co56] 24 (0, 0))) := ⟨h11_⟩
             have n12_ : Aside0 (w190.heap[gb396]? = some (.cells #[.slice Ao65 t392.length co65] 24 (0, 0))) := ⟨h12_⟩
             have n13_ : Aside0 (w190.heap[gb424]? = some (.cells #[.slice none 0 0] 24 (0, 0))) := ⟨h13_⟩
             have n14_ : Aside0 (w.heap.size ≤ gb424) := ⟨h14_⟩
             have n15_ : Aside0 (w.heap.size ≤ gb424) := ⟨h15_⟩
             have n16_ : Aside0 (gb369 ≠ gb424) := ⟨h16_⟩
             have n17_ : Aside0 (gb424 ≠ gb369) := ⟨h17_⟩
             have n18_ : Aside0 (gb370 ≠ gb424) := ⟨h18_⟩
             have n19_ : Aside0 (gb424 ≠ gb370) := ⟨h19_⟩
             have n20_ : Aside0 (gb383 ≠ gb424) := ⟨h20_⟩
             have n21_ : Aside0 (gb424 ≠ gb383) := ⟨h21_⟩
             have n22_ : Aside0 (gb387 ≠ gb424) := ⟨h22_⟩
             have n23_ : Aside0 (gb424 ≠ gb387) := ⟨h23_⟩
             have n24_ : Aside0 (gb391 ≠ gb424) := ⟨h24_⟩
             have n25_ : Aside0 (gb424 ≠ gb391) := ⟨h25_⟩
             have n26_ : Aside0 (gb396 ≠ gb424) := ⟨h26_⟩
             have n27_ : Aside0 (gb424 ≠ gb396) := ⟨h27_⟩
             have n28_ : Aside0 (Below w.heap.size w w190) := ⟨h28_⟩
             clear HO_384000
             clear HO_388000
             clear HO_392000
             clear HO_397000
             clear BK369
             clear BK370
             clear BK383
             clear BK387
             clear BK391
             clear BK396
             clear HB
             clear h0_ h1_ h2_ h3_ h4_ h5_ h6_ h7_ h8_ h9_ h10_ h11_ h12_ h13_ h14_ h15_ h16_ h17_ h18_ h19_ h20_ h21_ h22_ h23_ h24_ h25_ h26_ h27_ h28_
             have HO416 := n0_
             have HO419 := n1_
             have HO422 := n2_
             have HO_384000 := n3_
             have HO_388000 := n4_
             have HO_392000 := n5_
             have HO_397000 := n6_
             have BK369 := n7_
             have BK370 := n8_
             have BK383 := n9_
             have BK387 := n10_
             have BK391 := n11_
             have BK396 := n12_
             have BK424 := n13_
             have GW424 := n14_
             have GE424 := n15_
             have NB369_424 := n16_
             have NB424_369 := n17_
             have NB370_424 := n18_
             have NB424_370 := n19_
             have NB383_424 := n20_
             have NB424_383 := n21_
             have NB387_424 := n22_
             have NB424_387 := n23_
             have NB391_424 := n24_
             have NB424_391 := n25_
             have NB396_424 := n26_
             have NB424_396 := n27_
             have HB := n28_
             clear n0_ n1_ n2_ n3_ n4_ n5_ n6_ n7_ n8_ n9_ n10_ n11_ n12_ n13_ n14_ n15_ n16_ n17_ n18_ n19_ n20_ n21_ n22_ n23_ n24_ n25_ n26_ n27_ n28_
             have hHeld : w190.cell? ⟨gb369, 0, none⟩ = some (.slice A0_0 l0_0.length c0_0) ∧ w190.cell? ⟨gb370, 0, none⟩ = some (.slice A1_0 l1_0.length c1_0) := hS_
             obtain ⟨Ao191, co191, eo191⟩ := Kd.R_slice HO422.out
             (first | subst eo191 | (injection eo191 with f1_ f2_ f3_; have f4_ := f1_.symm; have f5_ := f3_.symm; clear f1_ f2_ f3_; subst f4_; subst f5_))
             refine norm_ (a' := ?_) ?_ ?_
             rotate_left
             ·simp only [putAll, Act.put, List.setIfInBounds_toArray, List.set_cons_zero, List.set_cons_succ]
              rfl
             refine one_ (i := 9) (N := none) #[true, true, true, true, true, true, true, true, true, true, false] rfl rfl (one_of HT_.out (by kernel_rfl)) (by decide) (fun K hK => ?_)
             have hs192 : w190.cell? ⟨gb424, 0, none⟩ = some (.slice none 0 0) := (blk_cell BK424.out 0).trans rfl
             have hfs192 := blk_frozen BK424.out 0
             have hns192_0 := NB369_424.out
             have hns192_1 := NB370_424.out
             have hns192_2 := NB383_424.out
             have hns192_3 := NB387_424.out
             have hns192_4 := NB391_424.out
             have hns192_5 := NB396_424.out
             have hms192_0 := NB424_369.out
             have hms192_1 := NB424_370.out
             have hms192_2 := NB424_383.out
             have hms192_3 := NB424_387.out
             have hms192_4 := NB424_391.out
             have hms192_5 := NB424_396.out
             refine skip_ (w1 := ?_) (by rfl) rfl ?_ ?_
             rotate_left
             ·go_simp
              rfl
             refine hK.out _ _ ⟨((cell_far (p := ⟨gb424, _, none⟩) NB369_424.out _).trans (hHeld.1)), ((cell_far (p := ⟨gb424, _, none⟩) NB370_424.out _).trans (hHeld.2))⟩ (fun hHeld => ?_)
             clear hK K
             refine pure_ (i := 10) (N := some 16) (v := ?_) (a' := ?_) #[true, true, true, true, true, true, true, true, true, true, true] rfl rfl (any_of HT_.out (by kernel_rfl)) (fun _ _ _ h => h) (Or.inl ⟨by rfl, ?_⟩) ?_ ?_
             rotate_left
             ·intro w'
              go_simp
              with_reducible rfl
             rotate_left
             ·simp only [Act.put, List.setIfInBounds_toArray, List.set_cons_zero, List.set_cons_succ, i64_w, i32_w]
              rfl
             refine done_ (done_of HT_.out (by kernel_rfl)) ?_
             go_upto_region 32 with (fail)
             go_cut [110] (fun v110 wc => ∃ (kq : Nat) (x110_172 : Bool), v110 = .bool x110_172 ∧ Aside0 (laws_FnExactMeetTries.j2 kq t411 x110_172 t412 = some true) ∧ Aside0 (kq ≤ kj106) ∧ Aside0 (Kd.R k67 67 wc w.heap.size (fun k_ => some k_ ≠ ((.slice Ao47 t407.length co47) : Value).ownBlock ∧ some k_ ≠ ((.slice Ao56 t409.length co56) : Value).ownBlock ∧ some k_ ≠ ((.slice Ao65 t392.length co65) : Value).ownBlock ∧ some k_ ≠ ((.slice Ao191 t420.length co191) : Value).ownBlock) (.slice Ao41 t379.length co41) t379) ∧ Aside0 (Kd.R k67 67 wc w.heap.size (fun k_ => some k_ ≠ ((.slice Ao41 t379.length co41) : Value).ownBlock ∧ some k_ ≠ ((.slice Ao56 t409.length co56) : Value).ownBlock ∧ some k_ ≠ ((.slice Ao65 t392.length co65) : Value).ownBlock ∧ some k_ ≠ ((.slice Ao191 t420.length co191) : Value).ownBlock) (.slice Ao47 t407.length co47) t407) ∧ Aside0 (Kd.R k67 67 wc w.heap.size (fun k_ => some k_ ≠ ((.slice Ao41 t379.length co41) : Value).ownBlock ∧ some k_ ≠ ((.slice Ao47 t407.length co47) : Value).ownBlock ∧ some k_ ≠ ((.slice Ao65 t392.length co65) : Value).ownBlock ∧ some k_ ≠ ((.slice Ao191 t420.length co191) : Value).ownBlock) (.slice Ao56 t409.length co56) t409) ∧ Aside0 (Kd.R k67 67 wc w.heap.size (fun k_ => some k_ ≠ ((.slice Ao41 t379.length co41) : Value).ownBlock ∧ some k_ ≠ ((.slice Ao47 t407.length co47) : Value).ownBlock ∧ some k_ ≠ ((.slice Ao56 t409.length co56) : Value).ownBlock ∧ some k_ ≠ ((.slice Ao191 t420.length co191) : Value).ownBlock) (.slice Ao65 t392.length co65) t412) ∧ Aside0 (Kd.R k67 67 wc w.heap.size (fun k_ => some k_ ≠ ((.slice Ao41 t379.length co41) : Value).ownBlock ∧ some k_ ≠ ((.slice Ao47 t407.length co47) : Value).ownBlock ∧ some k_ ≠ ((.slice Ao56 t409.length co56) : Value).ownBlock ∧ some k_ ≠ ((.slice Ao65 t392.length co65) : Value).ownBlock) (.slice Ao191 t420.length co191) t420) ∧ Aside0 (wc.heap[gb369]? = some (.cells #[(.slice A0_0 l0_0.length c0_0)] 32 (0, 0))) ∧ Aside0 (wc.heap[gb370]? = some (.cells #[(.slice A1_0 l1_0.length c1_0)] 32 (0, 0))) ∧ Aside0 (wc.heap[gb383]? = some (.cells #[(.slice Ao41 t379.length co41)] 24 (0, 0))) ∧ Aside0 (wc.heap[gb387]? = some (.cells #[(.slice Ao47 t407.length co47)] 24 (0, 0))) ∧ Aside0 (wc.heap[gb391]? = some (.cells #[(.slice Ao56 t409.length co56)] 24 (0, 0))) ∧ Aside0 (wc.heap[gb396]? = some (.cells #[(.slice Ao65 t392.length co65)] 24 (0, 0))) ∧ Aside0 (wc.heap[gb424]? = some (.cells #[(.slice Ao191 t420.length co191)] 24 (0, 0))) ∧ Aside0 (Below w.heap.size w wc))
             case first =>
              have H := HC173.out
              clear HC173
              replace H := Option.bind_eq_some_iff.mp H
              obtain ⟨t425, A1930, H⟩ := H
              replace H : (if t425 = true then (laws_FnExactMeetTries.j2 kj106 t411 (t423 != t382) t412) else (laws_FnExactMeetTries.j2 kj106 t411 true t412)) = some true := H
              have A193 := Aside0.mk A1930
              clear A1930
              by_cases c194 : t425 = true
              ·subst c194
               have H1 : (laws_FnExactMeetTries.j2 kj106 t411 (t423 != t382) t412) = some true := by rw [if_pos rfl] at H; exact H
               clear H
               have H := H1
               clear H1
               have H' := Aside0.mk H
               clear H
               have hnb195 := NB424_369.out
               have hnc195 := NB369_424.out
               have hnb196 := NB424_370.out
               have hnc196 := NB370_424.out
               have hnb197 := NB424_383.out
               have hnc197 := NB383_424.out
               have hnb198 := NB424_387.out
               have hnc198 := NB387_424.out
               have hnb199 := NB424_391.out
               have hnc199 := NB391_424.out
               have hnb200 := NB424_396.out
               have hnc200 := NB396_424.out
               have hcz201_0 : w190.cell? ⟨gb424, 0, none⟩ = some (.slice none 0 0) := (blk_cell BK424.out 0).trans rfl
               have hfz201_0 := blk_frozen BK424.out 0
               have hnb202 := NB383_369.out
               have hnc202 := NB369_383.out
               have hnb203 := NB383_370.out
               have hnc203 := NB370_383.out
               have hnb204 := NB383_387.out
               have hnc204 := NB387_383.out
               have hnb205 := NB383_391.out
               have hnc205 := NB391_383.out
               have hnb206 := NB383_396.out
               have hnc206 := NB396_383.out
               have hcz207_0 : w190.cell? ⟨gb383, 0, none⟩ = some (.slice Ao41 t379.length co41) := (blk_cell BK383.out 0).trans rfl
               have hfz207_0 := blk_frozen BK383.out 0
               go_wp2_with (first | ((with_reducible refine gate_callee (f := 9) rfl ?_); refine goesL_ (some 104) rfl rfl Try.func9 (by kernel_rfl) rfl #[.agg #[.slice Ao191 t420.length co191], .agg #[.slice Ao41 t379.length co41]] rfl (by (try simp only [List.map_toArray, List.map_cons, List.map_nil]); first | done | rfl | (simp only [List.length_drop, List.length_take]; rfl)) ?_; (with_reducible refine (laws_eqTrie.calls kj106 _ _ t420 _ _ t379 true _ ?side1 ?side2 ?side3 ?side4 A193.out).mono ?_); (case side1 => refine (Kd.R_reads' (e := 67) (base := w.heap.size) (ok := fun k_ => (some k_ ≠ (v415 : Value).ownBlock ∧ (some k_ ≠ (v418 : Value).ownBlock ∧ (some k_ ≠ (.slice Ao41 t379.length co41 : Value).ownBlock ∧ (some k_ ≠ (.slice Ao47 t407.length co47 : Value).ownBlock ∧ (some k_ ≠ (.slice Ao56 t409.length co56 : Value).ownBlock ∧ some k_ ≠ (.slice Ao65 t392.length co65 : Value).ownBlock)))))) (n := t420.length) (c := co191) ?_).2.2; exact (by (with_reducible repeat (first | apply Kd.R_alloc | apply Kd.R_drewN | apply Kd.R_drew)); exact (Kd.R_mono (R_same_ (Kd.R_far (p := ⟨gb424, 0, none⟩) (Kd.R_types HO422.out BK424.out (by decide)) (fun _ hk => hk.2) (.slice Ao191 t420.length co191)) rfl) (fun _ h_ => h_.1)))); (case side2 => exact (Kd.R_reads' HO422.out).2.1); (case side3 => refine (Kd.R_reads' (e := 67) (base := w.heap.size) (ok := fun k_ => (some k_ ≠ (v415 : Value).ownBlock ∧ (some k_ ≠ (v418 : Value).ownBlock ∧ (some k_ ≠ (.slice Ao191 t420.length co191 : Value).ownBlock ∧ (some k_ ≠ (.slice Ao47 t407.length co47 : Value).ownBlock ∧ (some k_ ≠ (.slice Ao56 t409.length co56 : Value).ownBlock ∧ some k_ ≠ (.slice Ao65 t392.length co65 : Value).ownBlock)))))) (n := t379.length) (c := co41) ?_).2.2; exact (by (with_reducible repeat (first | apply Kd.R_alloc | apply Kd.R_drewN | apply Kd.R_drew)); exact (Kd.R_mono (R_same_ (Kd.R_far (p := ⟨gb424, 0, none⟩) (Kd.R_types HO_384000.out BK424.out (by decide)) (fun _ hk => hk.2) (.slice Ao191 t420.length co191)) rfl) (fun _ h_ => h_.1)))); (case side4 => exact (Kd.R_reads' HO_384000.out).2.1); rintro e w208 ⟨rfl, hb⟩; refine ⟨_, rfl, ?_⟩; have n0_ := Aside0.mk (Kd.R_below (by (with_reducible repeat (first | apply Kd.R_alloc | apply Kd.R_drewN | apply Kd.R_drew)); exact (Kd.R_mono (R_same_ (Kd.R_far (p := ⟨gb424, 0, none⟩) (Kd.R_types HO_384000.out BK424.out (by decide)) (fun _ hk => hk.2) (.slice Ao191 t420.length co191)) rfl) (fun _ h_ => h_.1))) hb); have n1_ := Aside0.mk (Kd.R_below (by (with_reducible repeat (first | apply Kd.R_alloc | apply Kd.R_drewN | apply Kd.R_drew)); exact (Kd.R_mono (R_same_ (Kd.R_far (p := ⟨gb424, 0, none⟩) (Kd.R_types HO_388000.out BK424.out (by decide)) (fun _ hk => hk.2) (.slice Ao191 t420.length co191)) rfl) (fun _ h_ => h_.1))) hb); have n2_ := Aside0.mk (Kd.R_below (by (with_reducible repeat (first | apply Kd.R_alloc | apply Kd.R_drewN | apply Kd.R_drew)); exact (Kd.R_mono (R_same_ (Kd.R_far (p := ⟨gb424, 0, none⟩) (Kd.R_types HO_392000.out BK424.out (by decide)) (fun _ hk => hk.2) (.slice Ao191 t420.length co191)) rfl) (fun _ h_ => h_.1))) hb); have n3_ := Aside0.mk (Kd.R_below (by (with_reducible repeat (first | apply Kd.R_alloc | apply Kd.R_drewN | apply Kd.R_drew)); exact (Kd.R_mono (R_same_ (Kd.R_far (p := ⟨gb424, 0, none⟩) (Kd.R_types HO_397000.out BK424.out (by decide)) (fun _ hk => hk.2) (.slice Ao191 t420.length co191)) rfl) (fun _ h_ => h_.1))) hb); have n4_ := Aside0.mk (Kd.R_below (by (with_reducible repeat (first | apply Kd.R_alloc | apply Kd.R_drewN | apply Kd.R_drew)); exact (Kd.R_mono (R_same_ (Kd.R_far (p := ⟨gb424, 0, none⟩) (Kd.R_types HO416.out BK424.out (by decide)) (fun _ hk => hk.2) (.slice Ao191 t420.length co191)) rfl) (fun _ h_ => h_.1))) hb); have n5_ := Aside0.mk (Kd.R_below (by (with_reducible repeat (first | apply Kd.R_alloc | apply Kd.R_drewN | apply Kd.R_drew)); exact (Kd.R_mono (R_same_ (Kd.R_far (p := ⟨gb424, 0, none⟩) (Kd.R_types HO419.out BK424.out (by decide)) (fun _ hk => hk.2) (.slice Ao191 t420.length co191)) rfl) (fun _ h_ => h_.1))) hb); have n6_ := Aside0.mk (Kd.R_below (by (with_reducible repeat (first | apply Kd.R_alloc | apply Kd.R_drewN | apply Kd.R_drew)); exact (Kd.R_mono (R_same_ (Kd.R_far (p := ⟨gb424, 0, none⟩) (Kd.R_types HO422.out BK424.out (by decide)) (fun _ hk => hk.2) (.slice Ao191 t420.length co191)) rfl) (fun _ h_ => h_.1))) hb); have n7_ := Aside0.mk (blk_below (g := gb369) (o := .cells #[.slice A0_0 l0_0.length c0_0] 32 (0, 0)) (by (with_reducible repeat (first | refine blk_drewN ?_ _ | refine blk_drew ?_ | refine blk_alloc ?_ _)); refine blk_far ?_ NB369_424.out _; (with_reducible repeat (first | refine blk_drewN ?_ _ | refine blk_drew ?_ | refine blk_alloc ?_ _)); exact BK369.out) hb); have n8_ := Aside0.mk (blk_below (g := gb370) (o := .cells #[.slice A1_0 l1_0.length c1_0] 32 (0, 0)) (by (with_reducible repeat (first | refine blk_drewN ?_ _ | refine blk_drew ?_ | refine blk_alloc ?_ _)); refine blk_far ?_ NB370_424.out _; (with_reducible repeat (first | refine blk_drewN ?_ _ | refine blk_drew ?_ | refine blk_alloc ?_ _)); exact BK370.out) hb); have n9_ := Aside0.mk (blk_below (g := gb383) (o := .cells #[.slice Ao41 t379.length co41] 24 (0, 0)) (by (with_reducible repeat (first | refine blk_drewN ?_ _ | refine blk_drew ?_ | refine blk_alloc ?_ _)); refine blk_far ?_ NB383_424.out _; (with_reducible repeat (first | refine blk_drewN ?_ _ | refine blk_drew ?_ | refine blk_alloc ?_ _)); exact BK383.out) hb); have n10_ := Aside0.mk (blk_below (g := gb387) (o := .cells #[.slice Ao47 t407.length co47] 24 (0, 0)) (by (with_reducible repeat (first | refine blk_drewN ?_ _ | refine blk_drew ?_ | refine blk_alloc ?_ _)); refine blk_far ?_ NB387_424.out _; (with_reducible repeat (first | refine blk_drewN ?_ _ | refine blk_drew ?_ | refine blk_alloc ?_ _)); exact BK387.out) hb); have n11_ := Aside0.mk (blk_below (g := gb391) (o := .cells #[.slice Ao56 t409.length co56] 24 (0, 0)) (by (with_reducible repeat (first | refine blk_drewN ?_ _ | refine blk_drew ?_ | refine blk_alloc ?_ _)); refine blk_far ?_ NB391_424.out _; (with_reducible repeat (first | refine blk_drewN ?_ _ | refine blk_drew ?_ | refine blk_alloc ?_ _)); exact BK391.out) hb); have n12_ := Aside0.mk (blk_below (g := gb396) (o := .cells #[.slice Ao65 t392.length co65] 24 (0, 0)) (by (with_reducible repeat (first | refine blk_drewN ?_ _ | refine blk_drew ?_ | refine blk_alloc ?_ _)); refine blk_far ?_ NB396_424.out _; (with_reducible repeat (first | refine blk_drewN ?_ _ | refine blk_drew ?_ | refine blk_alloc ?_ _)); exact BK396.out) hb); have n13_ := Aside0.mk (blk_below (g := gb424) (o := .cells #[.slice Ao191 t420.length co191] 24 (0, 0)) (by (with_reducible repeat (first | refine blk_drewN ?_ _ | refine blk_drew ?_ | refine blk_alloc ?_ _)); refine blk_put (cs := #[.slice none 0 0]) ?_ 0 _ rfl; (with_reducible repeat (first | refine blk_drewN ?_ _ | refine blk_drew ?_ | refine blk_alloc ?_ _)); exact BK424.out) hb); have n14_ := Aside0.mk (below_step (by repeat (first | (with_reducible first | exact HB.out | apply below_alloc | apply pw_below_drewN | apply below_drew1 | refine below_set ?_ GE369.out | refine below_set ?_ GE370.out | refine below_set ?_ GE383.out | refine below_set ?_ GE387.out | refine below_set ?_ GE391.out | refine below_set ?_ GE396.out | refine below_set ?_ GE424.out) | exact HB.out)) hb); clear HO_384000; clear HO_388000; clear HO_392000; clear HO_397000; clear HO416; clear HO419; clear HO422; clear BK369; clear BK370; clear BK383; clear BK387; clear BK391; clear BK396; clear BK424; clear HB; have HO_384000 := n0_; have HO_388000 := n1_; have HO_392000 := n2_; have HO_397000 := n3_; have HO416 := n4_; have HO419 := n5_; have HO422 := n6_; have BK369 := n7_; have BK370 := n8_; have BK383 := n9_; have BK387 := n10_; have BK391 := n11_; have BK396 := n12_; have BK424 := n13_; have HB := n14_; clear n0_ n1_ n2_ n3_ n4_ n5_ n6_ n7_ n8_ n9_ n10_ n11_ n12_ n13_ n14_; (try clear hb); (try clear hb2); (try clear hk); (try clear hi)))
               go_meet
               case rel => exact ⟨_, ((t423 != t382)), (by first | rfl | (simp; done) | (simp [*]; done)), H', ⟨by have := HJ24.out; have := HJ106.out; first | omega | exact Nat.le_refl _⟩, ⟨by (try simp only [hl388000_106]); (try simp only [hl392000_106]); (with_reducible repeat (first | apply Kd.R_alloc | apply Kd.R_drewN | apply Kd.R_drew)); exact Kd.R_mono HO_384000.out (fun _ hk => ⟨hk.2.2.2.1, ⟨hk.2.2.2.2.1, ⟨hk.2.2.2.2.2, hk.2.2.1⟩⟩⟩)⟩, ⟨by (try simp only [hl388000_106]); (try simp only [hl392000_106]); (with_reducible repeat (first | apply Kd.R_alloc | apply Kd.R_drewN | apply Kd.R_drew)); exact Kd.R_mono HO_388000.out (fun _ hk => ⟨hk.2.2.2.1, ⟨hk.2.2.2.2.1, ⟨hk.2.2.2.2.2, hk.2.2.1⟩⟩⟩)⟩, ⟨by (try simp only [hl388000_106]); (try simp only [hl392000_106]); (with_reducible repeat (first | apply Kd.R_alloc | apply Kd.R_drewN | apply Kd.R_drew)); exact Kd.R_mono HO_392000.out (fun _ hk => ⟨hk.2.2.2.1, ⟨hk.2.2.2.2.1, ⟨hk.2.2.2.2.2, hk.2.2.1⟩⟩⟩)⟩, ⟨by (try simp only [hl388000_106]); (try simp only [hl392000_106]); (with_reducible repeat (first | apply Kd.R_alloc | apply Kd.R_drewN | apply Kd.R_drew)); exact Kd.R_mono HO_397000.out (fun _ hk => ⟨hk.2.2.2.1, ⟨hk.2.2.2.2.1, ⟨hk.2.2.2.2.2, hk.2.2.1⟩⟩⟩)⟩, ⟨by (try simp only [hl388000_106]); (try simp only [hl392000_106]); (with_reducible repeat (first | apply Kd.R_alloc | apply Kd.R_drewN | apply Kd.R_drew)); exact Kd.R_mono HO422.out (fun _ hk => ⟨hk.2.2.1, ⟨hk.2.2.2.1, ⟨hk.2.2.2.2.1, hk.2.2.2.2.2⟩⟩⟩)⟩, ⟨by (try simp only [hl388000_106]); (try simp only [hl392000_106]); (with_reducible repeat (first | refine blk_drewN ?_ _ | refine blk_drew ?_ | refine blk_alloc ?_ _)); exact BK369.out⟩, ⟨by (try simp only [hl388000_106]); (try simp only [hl392000_106]); (with_reducible repeat (first | refine blk_drewN ?_ _ | refine blk_drew ?_ | refine blk_alloc ?_ _)); exact BK370.out⟩, ⟨by (try simp only [hl388000_106]); (try simp only [hl392000_106]); (with_reducible repeat (first | refine blk_drewN ?_ _ | refine blk_drew ?_ | refine blk_alloc ?_ _)); exact BK383.out⟩, ⟨by (try simp only [hl388000_106]); (try simp only [hl392000_106]); (with_reducible repeat (first | refine blk_drewN ?_ _ | refine blk_drew ?_ | refine blk_alloc ?_ _)); exact BK387.out⟩, ⟨by (try simp only [hl388000_106]); (try simp only [hl392000_106]); (with_reducible repeat (first | refine blk_drewN ?_ _ | refine blk_drew ?_ | refine blk_alloc ?_ _)); exact BK391.out⟩, ⟨by (try simp only [hl388000_106]); (try simp only [hl392000_106]); (with_reducible repeat (first | refine blk_drewN ?_ _ | refine blk_drew ?_ | refine blk_alloc ?_ _)); exact BK396.out⟩, ⟨by (try simp only [hl388000_106]); (try simp only [hl392000_106]); (with_reducible repeat (first | refine blk_drewN ?_ _ | refine blk_drew ?_ | refine blk_alloc ?_ _)); exact BK424.out⟩, ⟨by repeat (first | (with_reducible first | exact HB.out | apply below_alloc | apply pw_below_drewN | apply below_drew1 | refine below_set ?_ GE369.out | refine below_set ?_ GE370.out | refine below_set ?_ GE383.out | refine below_set ?_ GE387.out | refine below_set ?_ GE391.out | refine below_set ?_ GE396.out | refine below_set ?_ GE424.out) | exact HB.out)⟩⟩
              ·replace c194 := Bool.eq_false_iff.mpr c194
               subst c194
               have H1 : (laws_FnExactMeetTries.j2 kj106 t411 true t412) = some true := by rw [if_neg (show ¬ (false = true) by decide)] at H; exact H
               exact absurd H1 (by cases kj106 <;> simp [laws_FnExactMeetTries.j2])
             case rest =>
              clear HC173
              try clear c1
              try clear c2
              try clear p2
              try clear c9
              try clear c14
              try clear c15
              try clear c19
              try clear c20
              try clear c21
              try clear c22
              try clear c194
              try clear c195
              try clear c196
              try clear c197
              try clear c198
              try clear c199
              try clear c200
              try clear c202
              try clear c203
              try clear c204
              try clear c205
              try clear c206
              try clear c209
              try clear c210
              try clear c211
              try clear c212
              try clear c213
              try clear c214
              try clear c216
              try clear c217
              try clear c218
              try clear c219
              try clear c220
              try clear hcz201_0
              try clear hcz207_0
              try clear hcz215_0
              try clear hcz221_0
              try clear hfz201_0
              try clear hfz207_0
              try clear hfz215_0
              try clear hfz221_0
              obtain ⟨kq, x110_172, rfl, HA, HJ172, HO_384000, HO_388000, HO_392000, HO_397000, HO_425000, BK369, BK370, BK383, BK387, BK391, BK396, BK424, HB⟩ := hcut
              have hl397000_172 := (Kd.R_reads' HO_397000.out).1
              rw [hl397000_172] at HO_397000
              (try simp only [hl397000_172])
              (try simp only [hl397000_172] at BK369)
              (try simp only [hl397000_172] at BK370)
              (try simp only [hl397000_172] at BK383)
              (try simp only [hl397000_172] at BK387)
              (try simp only [hl397000_172] at BK391)
              (try simp only [hl397000_172] at BK396)
              (try simp only [hl397000_172] at BK424)
              (try simp only [hl397000_172] at HO_384000)
              (try simp only [hl397000_172] at HO_388000)
              (try simp only [hl397000_172] at HO_392000)
              (try simp only [hl397000_172] at HO_425000)
              cases kq with
              | zero => exact absurd HA.out (by simp [laws_FnExactMeetTries.j2])
              | succ kj172 =>
               have H := HA.out
               clear HA
               simp only [laws_FnExactMeetTries.j2] at H
               by_cases c223 : x110_172 = true
               ·subst c223
                have H1 : (some false) = some true := by rw [if_pos rfl] at H; exact H
                exact absurd H1 (by simp)
               ·replace c223 := Bool.eq_false_iff.mpr c223
                subst c223
                have H1 : ((laws_heldTrie.f kj172 t412 1).bind fun t426 => (if t426 < 0 then (some false) else (if t426 = t411 then (some true) else (some false)))) = some true := by rw [if_neg (show ¬ (false = true) by decide)] at H; exact H
                clear H
                have H := H1
                clear H1
                replace H := Option.bind_eq_some_iff.mp H
                obtain ⟨t426, A2240, H⟩ := H
                replace H : (if t426 < 0 then (some false) else (if t426 = t411 then (some true) else (some false))) = some true := H
                have A224 := Aside0.mk A2240
                clear A2240
                by_cases c225 : t426 < 0
                ·rw [if_pos c225] at H
                 exact absurd H (by simp)
                ·rw [if_neg c225] at H
                 have c225b0 : decide (t426 < 0) = false := decide_eq_false c225
                 clear c225
                 by_cases c234 : t426 = t411
                 ·rw [if_pos c234] at H
                  have c234b0 : (t426 == t411) = true := beq_iff_eq.mpr c234
                  have c234b1 : (t426 != t411) = false := bne_eq_false_iff_eq.mpr c234
                  clear c234
                  (first | (obtain rfl := Option.some.inj H) | (have hH_ := Option.some.inj H; try simp only [hH_]))
                  have hnb235 := NB396_369.out
                  have hnc235 := NB369_396.out
                  have hnb236 := NB396_370.out
                  have hnc236 := NB370_396.out
                  have hnb237 := NB396_383.out
                  have hnc237 := NB383_396.out
                  have hnb238 := NB396_387.out
                  have hnc238 := NB387_396.out
                  have hnb239 := NB396_391.out
                  have hnc239 := NB391_396.out
                  have hnb240 := NB396_424.out
                  have hnc240 := NB424_396.out
                  have hcz241_0 : wc.cell? ⟨gb396, 0, none⟩ = some (.slice Ao65 t412.length co65) := (blk_cell BK396.out 0).trans rfl
                  have hfz241_0 := blk_frozen BK396.out 0
                  go_wp2_with (first | ((with_reducible refine gate_callee (f := 11) rfl ?_); refine goesL_ (some 113) rfl rfl Try.func11 (by kernel_rfl) rfl #[.agg #[.slice Ao65 t412.length co65], .int .i64 1] rfl (by (try simp only [List.map_toArray, List.map_cons, List.map_nil]); first | done | rfl | (simp only [List.length_drop, List.length_take]; rfl)) ?_; (with_reducible refine (laws_heldTrie.calls kj172 _ _ t412 1 t426 _ ?side1 ?side2 A224.out).mono ?_); (case side1 => repeat (first | exact (Kd.R_reads' HO_397000.out).2.2 | (with_reducible refine Kd.C_alloc ?_ _) | (with_reducible refine Kd.C_drewN ?_ _) | (with_reducible refine Kd.C_drew ?_))); (case side2 => exact (Kd.R_reads' HO_397000.out).2.1); rintro e w242 ⟨rfl, hb⟩; refine ⟨_, rfl, ?_⟩; have n0_ := Aside0.mk (Kd.R_below (by (with_reducible repeat (first | apply Kd.R_alloc | apply Kd.R_drewN | apply Kd.R_drew)); exact HO_384000.out) hb); have n1_ := Aside0.mk (Kd.R_below (by (with_reducible repeat (first | apply Kd.R_alloc | apply Kd.R_drewN | apply Kd.R_drew)); exact HO_388000.out) hb); have n2_ := Aside0.mk (Kd.R_below (by (with_reducible repeat (first | apply Kd.R_alloc | apply Kd.R_drewN | apply Kd.R_drew)); exact HO_392000.out) hb); have n3_ := Aside0.mk (Kd.R_below (by (with_reducible repeat (first | apply Kd.R_alloc | apply Kd.R_drewN | apply Kd.R_drew)); exact HO_397000.out) hb); have n4_ := Aside0.mk (Kd.R_below (by (with_reducible repeat (first | apply Kd.R_alloc | apply Kd.R_drewN | apply Kd.R_drew)); exact HO_425000.out) hb); have n5_ := Aside0.mk (blk_below (g := gb369) (o := .cells #[.slice A0_0 l0_0.length c0_0] 32 (0, 0)) (by (with_reducible repeat (first | refine blk_drewN ?_ _ | refine blk_drew ?_ | refine blk_alloc ?_ _)); exact BK369.out) hb); have n6_ := Aside0.mk (blk_below (g := gb370) (o := .cells #[.slice A1_0 l1_0.length c1_0] 32 (0, 0)) (by (with_reducible repeat (first | refine blk_drewN ?_ _ | refine blk_drew ?_ | refine blk_alloc ?_ _)); exact BK370.out) hb); have n7_ := Aside0.mk (blk_below (g := gb383) (o := .cells #[.slice Ao41 t379.length co41] 24 (0, 0)) (by (with_reducible repeat (first | refine blk_drewN ?_ _ | refine blk_drew ?_ | refine blk_alloc ?_ _)); exact BK383.out) hb); have n8_ := Aside0.mk (blk_below (g := gb387) (o := .cells #[.slice Ao47 t407.length co47] 24 (0, 0)) (by (with_reducible repeat (first | refine blk_drewN ?_ _ | refine blk_drew ?_ | refine blk_alloc ?_ _)); exact BK387.out) hb); have n9_ := Aside0.mk (blk_below (g := gb391) (o := .cells #[.slice Ao56 t409.length co56] 24 (0, 0)) (by (with_reducible repeat (first | refine blk_drewN ?_ _ | refine blk_drew ?_ | refine blk_alloc ?_ _)); exact BK391.out) hb); have n10_ := Aside0.mk (blk_below (g := gb396) (o := .cells #[.slice Ao65 t412.length co65] 24 (0, 0)) (by (with_reducible repeat (first | refine blk_drewN ?_ _ | refine blk_drew ?_ | refine blk_alloc ?_ _)); exact BK396.out) hb); have n11_ := Aside0.mk (blk_below (g := gb424) (o := .cells #[.slice Ao191 t420.length co191] 24 (0, 0)) (by (with_reducible repeat (first | refine blk_drewN ?_ _ | refine blk_drew ?_ | refine blk_alloc ?_ _)); exact BK424.out) hb); have n12_ := Aside0.mk (below_step (by repeat (first | (with_reducible first | exact HB.out | apply below_alloc | apply pw_below_drewN | apply below_drew1 | refine below_set ?_ GE369.out | refine below_set ?_ GE370.out | refine below_set ?_ GE383.out | refine below_set ?_ GE387.out | refine below_set ?_ GE391.out | refine below_set ?_ GE396.out | refine below_set ?_ GE424.out) | exact HB.out)) hb); clear HO_384000; clear HO_388000; clear HO_392000; clear HO_397000; clear HO_425000; clear BK369; clear BK370; clear BK383; clear BK387; clear BK391; clear BK396; clear BK424; clear HB; have HO_384000 := n0_; have HO_388000 := n1_; have HO_392000 := n2_; have HO_397000 := n3_; have HO_425000 := n4_; have BK369 := n5_; have BK370 := n6_; have BK383 := n7_; have BK387 := n8_; have BK391 := n9_; have BK396 := n10_; have BK424 := n11_; have HB := n12_; clear n0_ n1_ n2_ n3_ n4_ n5_ n6_ n7_ n8_ n9_ n10_ n11_ n12_; (try clear hb); (try clear hb2); (try clear hk); (try clear hi)))
                  go_ret
                  exact ⟨by first | rfl | (simp [errW_none, errW_some] <;> rfl) | (simp [*, errW_none, errW_some] <;> rfl), by repeat (first | (with_reducible first | exact HB.out | apply below_alloc | apply pw_below_drewN | apply below_drew1 | refine below_set ?_ GE369.out | refine below_set ?_ GE370.out | refine below_set ?_ GE383.out | refine below_set ?_ GE387.out | refine below_set ?_ GE391.out | refine below_set ?_ GE396.out | refine below_set ?_ GE424.out) | exact HB.out)⟩
                 ·rw [if_neg c234] at H
                  exact absurd H (by simp)
            ·rw [if_neg c169] at H
             exact absurd H (by simp)
       ·replace c104 := Bool.eq_false_iff.mpr c104
        subst c104
        have H1 : (some false) = some true := by rw [if_neg (show ¬ (false = true) by decide)] at H; exact H
        exact absurd H1 (by simp)
      ·replace c101 := Bool.eq_false_iff.mpr c101
       subst c101
       have H1 : (some false) = some true := by rw [if_neg (show ¬ (false = true) by decide)] at H; exact H
       exact absurd H1 (by simp)
end Go.Proofs.Ytnjopfckahipnaa.Q
namespace Go.Proofs.Ytnjopfckahipnaa.Q
open Go.RowKit Go.Proofs.YtnjopfckahipnaaW.PrintWords Go.Proofs.YtnjopfckahipnaaW.PrintLast
theorem both_MeetTries (l0 l1 : List IN) : ∃ r, Ev (fun k => spec_MeetTries.f k l0 l1) r ∧ Ev (fun _ => impl_MeetTries.f l0 l1) r ∧ r.1.length ≤ 1048576 := by
  unfold spec_MeetTries.f impl_MeetTries.f
  have h2 := two_ev l0 l1
  rcases two_cases l0 l1 with hf | ⟨wa, wb, hva, hvb, rfl, rfl, ha, hb⟩
  · rw [hf] at h2 ⊢
    exact ⟨([], false), Ev.bind h2 (Ev.neg (by decide) (Ev.pure _)), Ev.pure _, by decide⟩
  · rw [ha, hb] at h2 ⊢
    have a3 := hva.len
    have b3 := hvb.len
    rw [wordsV_trie hva, wordsV_trie hvb]
    have e : (wa.filter fun x => hasW wb x == true) = wa.filter (hasW wb) := List.filter_congr fun x _ => by simp
    have ht := those_ev wa wb true (by omega) (by omega)
    rw [e] at ht
    exact ⟨(trieW (wa.filter (hasW wb)), true), Ev.bind h2 (Ev.pos rfl (Ev.bind (specWords hva) (Ev.bind (specWords hvb) (Ev.bind ht (Ev.bind (made_sub hva _) (Ev.pure _)))))), Ev.pure _, sub_le hva _⟩
theorem pure_FnExactMeetTries (l0 : List LN) (l1 : List LN) (hl_l0 : l0.length ≤ maxLen) (hI_l0 : ∀ x ∈ l0, I64 x.f0 ∧ I64 x.f1) (hl_l1 : l1.length ≤ maxLen) (hI_l1 : ∀ x ∈ l1, I64 x.f0 ∧ I64 x.f1) : ∃ k, laws_FnExactMeetTries.f k l0 l1 = some true := by
  refine Ev.ex ?_
  unfold laws_FnExactMeetTries.f
  by_cases h_l0 : l0.length ≤ 1048576
  case neg => exact Ev.bindc (szTrie_eq l0 (by unfold maxLen at hl_l0; omega)) (by rw [if_neg h_l0]; exact Ev.pos (by decide) (Ev.pure _))
  refine Ev.bindc (szTrie_eq l0 (by unfold maxLen at hl_l0; omega)) ?_
  rw [if_pos h_l0]
  refine Ev.neg (by omega) ?_
  have ht_l0 := toTrie_ev l0 (by omega)
  have hc_l0 : (cv l0).length ≤ 1048576 := by rw [cv_length]; omega
  rw [show (1048576 - (l0.length : Int)) = ((1048576 - l0.length : Nat) : Int) by omega]
  by_cases h_l1 : l1.length ≤ 1048576 - l0.length
  case neg => exact Ev.bindc (szTrie_gen l1 _ (by unfold maxLen at hl_l1; omega) (by omega)) (by rw [if_neg h_l1]; exact Ev.pos (by decide) (Ev.pure _))
  refine Ev.bindc (szTrie_gen l1 _ (by unfold maxLen at hl_l1; omega) (by omega)) ?_
  rw [if_pos h_l1]
  refine Ev.neg (by omega) ?_
  have ht_l1 := toTrie_ev l1 (by omega)
  have hc_l1 : (cv l1).length ≤ 1048576 := by rw [cv_length]; omega
  obtain ⟨r, e1, e2, hr⟩ := both_MeetTries (cv l0) (cv l1)
  have hq := eqTrie_ev r.1 r.1 hr
  refine (Ev.bind ht_l0 (Ev.bind ht_l1 (Ev.bind e1 (Ev.bind ht_l0 (Ev.bind ht_l1 (Ev.bind e2 (Ev.bind hq (Ev.pos (by simp) (Ev.succ ?_)))))))))
  simp only [laws_FnExactMeetTries.j0]
  obtain ⟨m0, hm0⟩ := markTrie2_ev (cv l0) 1 hc_l0 (by omega)
  obtain ⟨m1, hm1⟩ := markTrie2_ev (cv l1) (1 + 3 * (cv l0).length) hc_l1 (by omega)
  refine Ev.neg (by simp) (Ev.bind ht_l0 (Ev.bind (eqTrie_ev _ _ hc_l0) (Ev.pos (by simp) (Ev.bind ht_l1 (Ev.bind (eqTrie_ev _ _ hc_l1) (Ev.pos (by simp) (Ev.bind hm0 (Ev.bind hm1 (Ev.neg (by simp only; omega) (Ev.bind hq (Ev.pos (by simp) (Ev.succ ?_))))))))))))
  simp only [laws_FnExactMeetTries.j1]
  obtain ⟨ms, hs1, hs2⟩ := markH_ev r.1 hr
  refine Ev.neg (by simp) (Ev.bind hs1 (Ev.bind hs2 (Ev.neg (by omega) (Ev.pos rfl (Ev.bind ht_l0 (Ev.bind ht_l1 (Ev.bind e2 (Ev.bind hq (Ev.pos (by simp) (Ev.succ ?_))))))))))
  simp only [laws_FnExactMeetTries.j2]
  exact Ev.neg (by simp) (Ev.bind hs2 (Ev.neg (by omega) (Ev.pos rfl (Ev.pure _))))
end Go.Proofs.Ytnjopfckahipnaa.Q
namespace Go.Proofs.Ytnjopfckahipnaa.Pure
theorem FnExactMeetTries (l0 : List Q.LN) (l1 : List Q.LN) (hl_l0 : l0.length ≤ maxLen) (hI_l0 : ∀ x ∈ l0, Q.I64 x.f0 ∧ Q.I64 x.f1) (hl_l1 : l1.length ≤ maxLen) (hI_l1 : ∀ x ∈ l1, Q.I64 x.f0 ∧ Q.I64 x.f1) : ∃ k, Q.laws_FnExactMeetTries.f k l0 l1 = some true := Q.pure_FnExactMeetTries l0 l1 hl_l0 hI_l0 hl_l1 hI_l1
end Go.Proofs.Ytnjopfckahipnaa.Pure
namespace Go.Proofs.Ytnjopfckahipnaa.fnExactMeetTries
open Go.ChangeShapes Go.WideShapes Go.ChangeAt Go.RowKit
open Go.ChangeMaps (open_string shut_string)
set_option linter.unusedVariables false
theorem own : ownKnob Try.prog.godebug = none := by kernel_rfl
theorem laidOut : laidOutB Try.prog = true := by kernel_rfl
set_option maxRecDepth 100000 in
theorem lifted (os : Os) (started : os.Started) (H : Type) (enc : TypeId × Value → H) :
    ReturnsInHanded {} Try.checked os 4 .any (Rows.fnExactMeetTriesSpec.pre6 enc Try.prog Try.f4 Rows.fnExactMeetTriesRow.domain false) (Rows.fnExactMeetTriesSpec.post enc Try.prog Try.f4 false true false false) := by
  refine returnsInHanded_of_change_sized (C := Try.checked) own started (by kernel_rfl) Try.func4
    (ChangeSpec.witness6 (enc := enc) (C := Try.checked) false ⟨#[], #[.agg #[.slice none 0 0], .agg #[.slice none 0 0]], []⟩ 8 (by kernel_rfl) (by kernel_rfl) (by kernel_rfl) (by kernel_rfl)) ?_
  intro W base args ds gs before hval0 hW hcnd hsz0 _
  have hsz : (DataW.weightsEach Try.prog (Try.f4.params.toList ++ Rows.fnExactMeetTriesSpec.plain.varTypes Try.prog) (ds ++ gs)).all (· ≤ reachBytes) = true := hsz0
  have hval : ∀ (j : Nat) t v, Try.f4.params[j]? = some t → args[j]? = some v → Value.okWide Try.prog W .any base t v := hval0
  have hW' := hW
  obtain ⟨p, q, hA0, hV, rfl, hfz, hnd⟩ := hW
  have hA : DataW.TrodAll enc Try.prog W 0 (fun _ => true) true Try.f4.params.toList args.toList ds p := hA0
  rw [Try.params4] at hA hval hsz
  obtain ⟨v0, vs0, d0, ds0, p0, q0, hargs, rfl, rfl, h0, r0⟩ := trodAll_cons hA
  obtain ⟨v1, vs1, d1, ds1, p1, q1, rfl, rfl, rfl, h1, r1⟩ := trodAll_cons r0
  obtain ⟨rfl, rfl, rfl⟩ := trodAll_nil r1
  obtain rfl : args = #[v0, v1] := by cases args; simp_all
  obtain ⟨rfl, rfl⟩ := trodVars_none hV
  have k0 := h0
  have lt0 : ∀ x ∈ p0, x.block < W.heap.size := by obtain ⟨m, hm⟩ := k0; exact DataW.trod_lt m _ _ _ hm
  obtain ⟨A0, c0, l0, rfl, hC0, hc0, hl0, hI0⟩ := Q.open_trie (hval 0 32 v0 rfl rfl) h0
  have k1 := h1
  have lt1 : ∀ x ∈ p1, x.block < W.heap.size := by obtain ⟨m, hm⟩ := k1; exact DataW.trod_lt m _ _ _ hm
  obtain ⟨A1, c1, l1, rfl, hC1, hc1, hl1, hI1⟩ := Q.open_trie (hval 1 32 v1 rfl rfl) h1
  clear hA0 hval0 hsz0 hsz
  obtain ⟨k, hk⟩ := Pure.FnExactMeetTries l0 l1 hl0 hI0 hl1 hI1
  refine (Q.laws_FnExactMeetTries.calls k A0 c0 l0 A1 c1 l1 true W hC0 hc0 hC1 hc1 hk).mono fun e W' ⟨he, bel0⟩ => ?_
  have bel : Below W.heap.size W W' := bel0
  subst he
  exact ⟨_, rfl, _, _, _, [], _, [], hW', trodAll_mk1 (shut_bool Try.underlying4 _), (trodAll_cons_mk (Below.trod laidOut (by kernel_rfl) (of_decide_eq_true (by kernel_rfl)) k0 bel lt0) (trodAll_cons_mk (Below.trod laidOut (by kernel_rfl) (of_decide_eq_true (by kernel_rfl)) k1 bel lt1) trodAll_mk0)), rfl, bel.frame _, fun h => by cases h⟩
theorem over : Rows.fnExactMeetTriesRow.holds Try.pinned (OpenSpec.ofChange Rows.fnExactMeetTriesSpec) :=
  OpenClaim.holds_of_wide 4 Try.f4 rfl rfl rfl rfl rfl rfl rfl ⟨rfl, rfl, rfl, rfl, rfl⟩ rfl rfl rfl rfl rfl (by kernel_rfl) Try.func4 (by kernel_rfl)
    (of_decide_eq_true (by kernel_rfl)) (by unfold Func.isWrapper; first | (rw [if_pos (by decide +kernel)]; kernel_rfl) | (rw [if_neg (by decide +kernel)]; exact ⟨rfl, rfl⟩))
    (fun os started H enc _ => lifted os started H enc)
theorem proved : Rows.FnExactMeetTriesSaid := over
end Go.Proofs.Ytnjopfckahipnaa.fnExactMeetTries
namespace Go.Proofs.Ytnjopfckahipnaa
theorem fnExactMeetTries_holds : Rows.FnExactMeetTriesSaid := fnExactMeetTries.proved
end Go.Proofs.Ytnjopfckahipnaa
