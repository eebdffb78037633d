/- The law FnExactCompleteTo: for every input the call answers true and leaves its arguments as they were. -/
import Derived.Test.YtcgcicngfemnlaaDoorA0
import Derived.Test.YtcgcicngfemnlaaDoorA1
import Derived.Test.YtcgcicngfemnlaaDoorA2
import Derived.Test.YtcgcicngfemnlaaDoorAwWords
import Derived.Test.YtcgcicngfemnlaaDoorAwLast
import Derived.Test.YtcgcicngfemnlaaDoorAwTab
import Derived.Test.YtcgcicngfemnlaaDoorAwApart
import Derived.Test.YtcgcicngfemnlaaDoorAwFoot
import Derived.Test.YtcgcicngfemnlaaDoorAwKept
import Derived.Test.YtcgcicngfemnlaaDoorAwShare
import Derived.Test.YtcgcicngfemnlaaDoorAwN
import Derived.Test.YtcgcicngfemnlaaDoorAwEqStruct
import Derived.Test.YtcgcicngfemnlaaDoorAwRepsOne
import Derived.Test.YtcgcicngfemnlaaDoorAwGuard
import Derived.Test.YtcgcicngfemnlaaDoorAwMore
import Derived.Test.YtcgcicngfemnlaaDoorProg
import Derived.Below
import Derived.Deep.Draws
import Derived.Deep.AppendLies
import Derived.Maps.AppendAt
import Derived.OwnWalk
import Derived.Laws.BytesArg
import Derived.Laws.MakeOwn
import Derived.Laws.OwnMore
import Derived.Deep.OwnRows
import Derived.Tactics
import Derived.Lib.ConvBytes
import Derived.Laws.Slices
import Derived.WalkKit
import Derived.KernelRfl
import Derived.RowKit3
import Derived.Deep.LoopGhost
import Derived.Deep.QuietTactic
import Derived.BigQuiet
import Derived.WideLaws
import Derived.Deep.DeepCutAuto
import Derived.Deep.CutBlock
import Derived.Deep.RegionHeld3
import Derived.Laws.Rows
import Derived.Lib.AppendStr
import Derived.ArgAppend
import Derived.Laws.IdiomCopy
import Derived.OrdersHeld
import Derived.Laws.BitsLemmas
import Derived.RowKit
import Derived.Lib.SlicesCompact
import Derived.Maps.Own
import Derived.StringKeys
import Derived.Maps.OwnOps
import Derived.Maps.OwnSet
import Derived.Maps.Views
import Derived.Laws.AppendOwn
import Derived.Deep.DrawnRows
import Derived.Shelf.Sort.Plain
import Derived.Shelf.Slices.CompactS
import Derived.Shelf.Slices.In.SortNone
import Derived.RangeFuncBox
import Derived.RangeFuncLeaves
import Derived.Shelf.Abstract
import Derived.OwnWalkIn
import Derived.TacticsInMore
import Derived.LoopNIn
import Derived.LoopIn
import Derived.Lib.OwnBridge
import Derived.Sort.OwnSorted
import Derived.Sort.Grow
import Derived.Shelf.Strings.OnBuilder
import Derived.Ground.NamesProg
import Derived.Ground.SlgfProg
import Derived.Sort.Walk0
import Derived.Lib.Strings
import Derived.Shelf.Strings.SlTrimAscii
import Derived.RegionTactic
import Derived.BigRegion
import Derived.Shelf.SlicesE.DeleteFunc
import Derived.Lib.SliceRun
import Derived.Deep.Slices
import Derived.Deep.Fields
import Derived.ChangeSame
import Derived.ChangeArms
import Derived.WideShapes
import Derived.Test.YtcgcicngfemnlaaDoorRows
import Derived.Test.YtcgcicngfemnlaaDoorTie
import Derived.Test.YtcgcicngfemnlaaDoorCards
import Derived.ProofKit
import Derived.OpenShut
import Derived.ShutString
import Derived.ChangeOld
import Derived.SizedLaws
import Derived.Carry
import Derived.LaidMore
import Derived.Lay
import Derived.SevenTiedAt
import Derived.Stop.Joined
set_option linter.unusedVariables false
set_option linter.unusedSimpArgs false
namespace Go.Proofs.YtcgcicngfemnlaaDoor.Q
open Go.RowKit Go.Proofs.YtcgcicngfemnlaaDoorW.PrintWords Go.Proofs.YtcgcicngfemnlaaDoorW.PrintLast Go.Proofs.YtcgcicngfemnlaaDoorW.PrintMore
attribute [local go_sem] run_field_23 run_field_24 run_field_29 run_field_30 isSome_setCell max2_int min2_int max_two min_two max_three min_three max_four min_four   -- for this text's walks alone
set_option linter.unusedVariables false
set_option linter.unusedSimpArgs false
def laws_FnExactCompleteTo.j0 : Nat → Bool → List (S54) → List (S51) → Option (Bool)
  | 0, _, _, _ => none
  | k + 1, x41, x350000, x360000 => if x41 = true then (some false) else ((laws_toTrie.f k x350000).bind fun t362 => ((laws_eqTrie.f k x360000 t362).bind fun t365 => (if t365 = true then (some true) else (some false))))
def laws_FnExactCompleteTo.f (k : Nat) (l0_0 : List (S54)) (a1 : ByteArray) : Option (Bool) := if (a1.size : Int) > 1048576 then (some true) else ((laws_szTrie.f l0_0 1048576).bind fun t350 => (if t350 < 0 then (some true) else ((laws_toTrie.f k l0_0).bind fun t351 => ((spec_CompleteTo.f k t351 a1).bind fun bt354 => ((laws_toTrie.f k l0_0).bind fun t356 => ((impl_CompleteTo.f k t356 a1).bind fun bt360 => (if bt360.1.toList = bt354.1.toList then (laws_FnExactCompleteTo.j0 k (bt360.2 != bt354.2) l0_0 t356) else (laws_FnExactCompleteTo.j0 k true l0_0 t356))))))))
set_option maxHeartbeats 8000000 in
set_option maxRecDepth 100000 in
theorem laws_FnExactCompleteTo.calls (k : Nat) (A0_0 : Option Addr) (c0_0 : Nat) (l0_0 : List (S54)) (a1 : ByteArray) (r : Bool) (w : World) (hr0_0 : Kd.C k54 w A0_0 l0_0.length l0_0) (hc0_0 : l0_0.length ≤ c0_0) (h : laws_FnExactCompleteTo.f k l0_0 a1 = some true) :
    Calls Tryd.prog 3 #[.agg #[.slice A0_0 l0_0.length c0_0], .string a1] w fun e w' => e = .returned (.bool true) ∧ Below w.heap.size w w' := by
  have hu24 := Tryd.underlying24
  have hu30 := Tryd.underlying30
  have HR0_0 := Aside0.mk hr0_0
  have HC0_0 := Aside0.mk hc0_0
  clear hr0_0 hc0_0
  have HB := Aside0.mk (Below.refl w.heap.size w)
  have H : (if (a1.size : Int) > 1048576 then (some true) else ((laws_szTrie.f l0_0 1048576).bind fun t350 => (if t350 < 0 then (some true) else ((laws_toTrie.f k l0_0).bind fun t351 => ((spec_CompleteTo.f k t351 a1).bind fun bt354 => ((laws_toTrie.f k l0_0).bind fun t356 => ((impl_CompleteTo.f k t356 a1).bind fun bt360 => (if bt360.1.toList = bt354.1.toList then (laws_FnExactCompleteTo.j0 k (bt360.2 != bt354.2) l0_0 t356) else (laws_FnExactCompleteTo.j0 k true l0_0 t356))))))))) = some true := h
  clear h
  by_cases c3 : (a1.size : Int) > 1048576
  · rw [if_pos c3] at H
    have c3b0 : decide (1048576 < (a1.size : Int)) = true := decide_eq_true c3
    have c3b1 : decide (1048576 < a1.size) = true := decide_eq_true (by omega)
    clear c3
    (first | (obtain rfl := Option.some.inj H) | (have hH_ := Option.some.inj H; try simp only [hH_]))
    go_enter Tryd.func3, Tryd.ntmps3
    go_wp2_with (first | ((with_reducible refine gate_dst (N := 2) rfl ?_); refine box_event ?hg (N := 2) ?hd (cs := #[.slice A0_0 l0_0.length c0_0]) (t := 24) ?hr ?_; (case hd => rfl); (case hg => rfl); (case hr => first | (go_simp; done) | (go_simp; rfl)); intro gb349 hg w4 hbox hb; have n0_ := Aside0.mk (below_step (by repeat (first | (with_reducible first | exact HB.out | apply below_alloc | apply pw_below_drewN | apply below_drew1) | exact HB.out)) hb); have n1_ := Aside0.mk (hbox); have n2_ := Aside0.mk ((by rw [hg]; exact (below_size (by repeat (first | (with_reducible first | exact HB.out | apply below_alloc | apply pw_below_drewN | apply below_drew1) | exact HB.out))) : w.heap.size ≤ gb349)); have n3_ := Aside0.mk ((by rw [hg]; exact (below_size (by repeat (first | (with_reducible first | exact HB.out | apply below_alloc | apply pw_below_drewN | apply below_drew1) | exact HB.out))) : w.heap.size ≤ gb349)); clear HB; have HB := n0_; have BK349 := n1_; have GW349 := n2_; have GE349 := n3_; clear n0_ n1_ n2_ n3_; clear hb hbox hg))
    go_ret
    exact ⟨by first | rfl | (simp [errW_none, errW_some] <;> rfl) | (simp [*, errW_none, errW_some] <;> rfl), by repeat (first | (with_reducible first | exact HB.out | apply below_alloc | apply pw_below_drewN | apply below_drew1 | refine below_set ?_ GE349.out) | exact HB.out)⟩
  · rw [if_neg c3] at H
    have c3b0 : decide (1048576 < (a1.size : Int)) = false := decide_eq_false c3
    have c3b1 : decide (1048576 < a1.size) = false := decide_eq_false (by omega)
    clear c3
    replace H := Option.bind_eq_some_iff.mp H
    obtain ⟨t350, A50, H⟩ := H
    replace H : (if t350 < 0 then (some true) else ((laws_toTrie.f k l0_0).bind fun t351 => ((spec_CompleteTo.f k t351 a1).bind fun bt354 => ((laws_toTrie.f k l0_0).bind fun t356 => ((impl_CompleteTo.f k t356 a1).bind fun bt360 => (if bt360.1.toList = bt354.1.toList then (laws_FnExactCompleteTo.j0 k (bt360.2 != bt354.2) l0_0 t356) else (laws_FnExactCompleteTo.j0 k true l0_0 t356))))))) = some true := H
    have A5 := Aside0.mk A50
    clear A50
    by_cases c6 : t350 < 0
    · rw [if_pos c6] at H
      have c6b0 : decide (t350 < 0) = true := decide_eq_true c6
      clear c6
      (first | (obtain rfl := Option.some.inj H) | (have hH_ := Option.some.inj H; try simp only [hH_]))
      go_enter Tryd.func3, Tryd.ntmps3
      go_wp2_with (first | ((with_reducible refine gate_dst (N := 2) rfl ?_); refine box_event ?hg (N := 2) ?hd (cs := #[.slice A0_0 l0_0.length c0_0]) (t := 24) ?hr ?_; (case hd => rfl); (case hg => rfl); (case hr => first | (go_simp; done) | (go_simp; rfl)); intro gb349 hg w7 hbox hb; have n0_ := Aside0.mk (below_step (by repeat (first | (with_reducible first | exact HB.out | apply below_alloc | apply pw_below_drewN | apply below_drew1) | exact HB.out)) hb); have n1_ := Aside0.mk (hbox); have n2_ := Aside0.mk ((by rw [hg]; exact (below_size (by repeat (first | (with_reducible first | exact HB.out | apply below_alloc | apply pw_below_drewN | apply below_drew1) | exact HB.out))) : w.heap.size ≤ gb349)); have n3_ := Aside0.mk ((by rw [hg]; exact (below_size (by repeat (first | (with_reducible first | exact HB.out | apply below_alloc | apply pw_below_drewN | apply below_drew1) | exact HB.out))) : w.heap.size ≤ gb349)); clear HB; have HB := n0_; have BK349 := n1_; have GW349 := n2_; have GE349 := n3_; clear n0_ n1_ n2_ n3_; clear hb hbox hg; have hcz8_0 : w7.cell? ⟨gb349, 0, none⟩ = some (.slice A0_0 l0_0.length c0_0) := (blk_cell BK349.out 0).trans rfl; have hfz8_0 := blk_frozen BK349.out 0) | ((with_reducible refine gate_callee (f := 4) rfl ?_); refine goesL_ (some 16) rfl rfl Tryd.func4 (by kernel_rfl) rfl #[.agg #[.slice A0_0 l0_0.length c0_0], .int .i64 1048576] rfl (by (try simp only [List.map_toArray, List.map_cons, List.map_nil]); first | done | rfl | (simp only [List.length_drop, List.length_take]; rfl)) ?_; (with_reducible refine (laws_szTrie.calls _ _ l0_0 1048576 t350 _ ?side1 ?side2 A5.out).mono ?_); (case side1 => repeat (first | exact (Kd.C_below HR0_0.out HB.out) | (with_reducible refine Kd.C_alloc ?_ _) | (with_reducible refine Kd.C_drewN ?_ _) | (with_reducible refine Kd.C_drew ?_))); (case side2 => exact HC0_0.out); rintro e w9 ⟨rfl, hb⟩; refine ⟨_, rfl, ?_⟩; have n0_ := Aside0.mk (blk_below (g := gb349) (o := .cells #[.slice A0_0 l0_0.length c0_0] 24 (0, 0)) (by (with_reducible repeat (first | refine blk_drewN ?_ _ | refine blk_drew ?_ | refine blk_alloc ?_ _)); exact BK349.out) hb); have n1_ := Aside0.mk (below_step (by repeat (first | (with_reducible first | exact HB.out | apply below_alloc | apply pw_below_drewN | apply below_drew1 | refine below_set ?_ GE349.out) | exact HB.out)) hb); clear BK349; clear HB; have BK349 := n0_; have HB := n1_; clear n0_ n1_; (try clear hb); (try clear hb2); (try clear hk); (try clear hi)))
      go_ret
      exact ⟨by first | rfl | (simp [errW_none, errW_some] <;> rfl) | (simp [*, errW_none, errW_some] <;> rfl), by repeat (first | (with_reducible first | exact HB.out | apply below_alloc | apply pw_below_drewN | apply below_drew1 | refine below_set ?_ GE349.out) | exact HB.out)⟩
    · rw [if_neg c6] at H
      have c6b0 : decide (t350 < 0) = false := decide_eq_false c6
      clear c6
      replace H := Option.bind_eq_some_iff.mp H
      obtain ⟨t351, A100, H⟩ := H
      replace H : ((spec_CompleteTo.f k t351 a1).bind fun bt354 => ((laws_toTrie.f k l0_0).bind fun t356 => ((impl_CompleteTo.f k t356 a1).bind fun bt360 => (if bt360.1.toList = bt354.1.toList then (laws_FnExactCompleteTo.j0 k (bt360.2 != bt354.2) l0_0 t356) else (laws_FnExactCompleteTo.j0 k true l0_0 t356))))) = some true := H
      have A10 := Aside0.mk A100
      clear A100
      replace H := Option.bind_eq_some_iff.mp H
      obtain ⟨⟨t354, t355⟩, A110, H⟩ := H
      replace H : ((laws_toTrie.f k l0_0).bind fun t356 => ((impl_CompleteTo.f k t356 a1).bind fun bt360 => (if bt360.1.toList = t354.toList then (laws_FnExactCompleteTo.j0 k (bt360.2 != t355) l0_0 t356) else (laws_FnExactCompleteTo.j0 k true l0_0 t356)))) = some true := H
      have A11 := Aside0.mk A110
      clear A110
      replace H := Option.bind_eq_some_iff.mp H
      obtain ⟨t356, A120, H⟩ := H
      replace H : ((impl_CompleteTo.f k t356 a1).bind fun bt360 => (if bt360.1.toList = t354.toList then (laws_FnExactCompleteTo.j0 k (bt360.2 != t355) l0_0 t356) else (laws_FnExactCompleteTo.j0 k true l0_0 t356))) = some true := H
      have A12 := Aside0.mk A120
      clear A120
      replace H := Option.bind_eq_some_iff.mp H
      obtain ⟨⟨t360, t361⟩, A130, H⟩ := H
      replace H : (if t360.toList = t354.toList then (laws_FnExactCompleteTo.j0 k (t361 != t355) l0_0 t356) else (laws_FnExactCompleteTo.j0 k true l0_0 t356)) = some true := H
      have A13 := Aside0.mk A130
      clear A130
      have HC14 := Aside0.mk H
      clear H
      go_enter Tryd.func3, Tryd.ntmps3
      go_upto_region 10 with (first | ((with_reducible refine gate_dst (N := 2) rfl ?_); refine box_event ?hg (N := 2) ?hd (cs := #[.slice A0_0 l0_0.length c0_0]) (t := 24) ?hr ?_; (case hd => rfl); (case hg => rfl); (case hr => first | (go_simp; done) | (go_simp; rfl)); intro gb349 hg w15 hbox hb; have n0_ := Aside0.mk (below_step (by repeat (first | (with_reducible first | exact HB.out | apply below_alloc | apply pw_below_drewN | apply below_drew1) | exact HB.out)) hb); have n1_ := Aside0.mk (hbox); have n2_ := Aside0.mk ((by rw [hg]; exact (below_size (by repeat (first | (with_reducible first | exact HB.out | apply below_alloc | apply pw_below_drewN | apply below_drew1) | exact HB.out))) : w.heap.size ≤ gb349)); have n3_ := Aside0.mk ((by rw [hg]; exact (below_size (by repeat (first | (with_reducible first | exact HB.out | apply below_alloc | apply pw_below_drewN | apply below_drew1) | exact HB.out))) : w.heap.size ≤ gb349)); clear HB; have HB := n0_; have BK349 := n1_; have GW349 := n2_; have GE349 := n3_; clear n0_ n1_ n2_ n3_; clear hb hbox hg; have hcz16_0 : w15.cell? ⟨gb349, 0, none⟩ = some (.slice A0_0 l0_0.length c0_0) := (blk_cell BK349.out 0).trans rfl; have hfz16_0 := blk_frozen BK349.out 0) | ((with_reducible refine gate_callee (f := 4) rfl ?_); refine goesL_ (some 16) rfl rfl Tryd.func4 (by kernel_rfl) rfl #[.agg #[.slice A0_0 l0_0.length c0_0], .int .i64 1048576] rfl (by (try simp only [List.map_toArray, List.map_cons, List.map_nil]); first | done | rfl | (simp only [List.length_drop, List.length_take]; rfl)) ?_; (with_reducible refine (laws_szTrie.calls _ _ l0_0 1048576 t350 _ ?side1 ?side2 A5.out).mono ?_); (case side1 => repeat (first | exact (Kd.C_below HR0_0.out HB.out) | (with_reducible refine Kd.C_alloc ?_ _) | (with_reducible refine Kd.C_drewN ?_ _) | (with_reducible refine Kd.C_drew ?_))); (case side2 => exact HC0_0.out); rintro e w17 ⟨rfl, hb⟩; refine ⟨_, rfl, ?_⟩; have n0_ := Aside0.mk (blk_below (g := gb349) (o := .cells #[.slice A0_0 l0_0.length c0_0] 24 (0, 0)) (by (with_reducible repeat (first | refine blk_drewN ?_ _ | refine blk_drew ?_ | refine blk_alloc ?_ _)); exact BK349.out) hb); have n1_ := Aside0.mk (below_step (by repeat (first | (with_reducible first | exact HB.out | apply below_alloc | apply pw_below_drewN | apply below_drew1 | refine below_set ?_ GE349.out) | exact HB.out)) hb); clear BK349; clear HB; have BK349 := n0_; have HB := n1_; clear n0_ n1_; (try clear hb); (try clear hb2); (try clear hk); (try clear hi); have hcz18_0 : w17.cell? ⟨gb349, 0, none⟩ = some (.slice A0_0 l0_0.length c0_0) := (blk_cell BK349.out 0).trans rfl; have hfz18_0 := blk_frozen BK349.out 0) | ((with_reducible refine gate_callee (f := 6) rfl ?_); refine goesL_ (some 21) rfl rfl Tryd.func6 (by kernel_rfl) rfl #[.agg #[.slice A0_0 l0_0.length c0_0]] rfl (by (try simp only [List.map_toArray, List.map_cons, List.map_nil]); first | done | rfl | (simp only [List.length_drop, List.length_take]; rfl)) ?_; (with_reducible refine (laws_toTrie.calls k _ _ l0_0 t351 _ ?side1 ?side2 A10.out).mono ?_); (case side1 => repeat (first | exact (Kd.C_below HR0_0.out HB.out) | (with_reducible refine Kd.C_alloc ?_ _) | (with_reducible refine Kd.C_drewN ?_ _) | (with_reducible refine Kd.C_drew ?_))); (case side2 => exact HC0_0.out); rintro e w19 ⟨v352, rfl, ho0, hb⟩; refine ⟨_, rfl, ?_⟩; have n0_ := Aside0.mk (Kd.R_lower ho0 (below_size (by repeat (first | (with_reducible first | exact HB.out | apply below_alloc | apply pw_below_drewN | apply below_drew1 | refine below_set ?_ GE349.out) | exact HB.out)))); have n1_ := Aside0.mk (blk_below (g := gb349) (o := .cells #[.slice A0_0 l0_0.length c0_0] 24 (0, 0)) (by (with_reducible repeat (first | refine blk_drewN ?_ _ | refine blk_drew ?_ | refine blk_alloc ?_ _)); exact BK349.out) hb); have n2_ := Aside0.mk (below_step (by repeat (first | (with_reducible first | exact HB.out | apply below_alloc | apply pw_below_drewN | apply below_drew1 | refine below_set ?_ GE349.out) | exact HB.out)) hb); clear BK349; clear HB; have HO353 := n0_; have BK349 := n1_; have HB := n2_; clear n0_ n1_ n2_; (try clear hb); (try clear hb2); (try clear hk); (try clear hi); (try clear ho0); obtain ⟨Ao20, co20, eo20⟩ := Kd.R_slice HO353.out; subst eo20) | ((with_reducible refine gate_callee (f := 5) rfl ?_); refine goesL_ (some 23) rfl rfl Tryd.func5 (by kernel_rfl) rfl #[.agg #[.slice Ao20 t351.length co20], .string a1] rfl (by (try simp only [List.map_toArray, List.map_cons, List.map_nil]); first | done | rfl | (simp only [List.length_drop, List.length_take]; rfl)) ?_; (with_reducible refine (spec_CompleteTo.calls k _ _ t351 a1 t354 t355 _ ?side1 ?side2 A11.out).mono ?_); (case side1 => repeat (first | exact (Kd.R_reads' HO353.out).2.2 | (with_reducible refine Kd.C_alloc ?_ _) | (with_reducible refine Kd.C_drewN ?_ _) | (with_reducible refine Kd.C_drew ?_))); (case side2 => exact (Kd.R_reads' HO353.out).2.1); rintro e w21 ⟨rfl, hb⟩; refine ⟨_, rfl, ?_⟩; have n0_ := Aside0.mk (Kd.R_below (by (with_reducible repeat (first | apply Kd.R_alloc | apply Kd.R_drewN | apply Kd.R_drew)); exact HO353.out) hb); have n1_ := Aside0.mk (blk_below (g := gb349) (o := .cells #[.slice A0_0 l0_0.length c0_0] 24 (0, 0)) (by (with_reducible repeat (first | refine blk_drewN ?_ _ | refine blk_drew ?_ | refine blk_alloc ?_ _)); exact BK349.out) hb); have n2_ := Aside0.mk (below_step (by repeat (first | (with_reducible first | exact HB.out | apply below_alloc | apply pw_below_drewN | apply below_drew1 | refine below_set ?_ GE349.out) | exact HB.out)) hb); clear HO353; clear BK349; clear HB; have HO353 := n0_; have BK349 := n1_; have HB := n2_; clear n0_ n1_ n2_; (try clear hb); (try clear hb2); (try clear hk); (try clear hi); have hcz22_0 : w21.cell? ⟨gb349, 0, none⟩ = some (.slice A0_0 l0_0.length c0_0) := (blk_cell BK349.out 0).trans rfl; have hfz22_0 := blk_frozen BK349.out 0) | ((with_reducible refine gate_callee (f := 6) rfl ?_); refine goesL_ (some 27) rfl rfl Tryd.func6 (by kernel_rfl) rfl #[.agg #[.slice A0_0 l0_0.length c0_0]] rfl (by (try simp only [List.map_toArray, List.map_cons, List.map_nil]); first | done | rfl | (simp only [List.length_drop, List.length_take]; rfl)) ?_; (with_reducible refine (laws_toTrie.calls k _ _ l0_0 t356 _ ?side1 ?side2 A12.out).mono ?_); (case side1 => repeat (first | exact (Kd.C_below HR0_0.out HB.out) | (with_reducible refine Kd.C_alloc ?_ _) | (with_reducible refine Kd.C_drewN ?_ _) | (with_reducible refine Kd.C_drew ?_))); (case side2 => exact HC0_0.out); rintro e w23 ⟨v357, rfl, ho0, hb⟩; refine ⟨_, rfl, ?_⟩; have n0_ := Aside0.mk (Kd.R_elder' (by (with_reducible repeat (first | apply Kd.R_alloc | apply Kd.R_drewN | apply Kd.R_drew)); exact HO353.out) (Kd.R_base ho0) hb); have n1_ := Aside0.mk (Kd.R_lower (Kd.R_new' ho0 (Kd.R_lt (by (with_reducible repeat (first | apply Kd.R_alloc | apply Kd.R_drewN | apply Kd.R_drew)); exact HO353.out))) (below_size (by repeat (first | (with_reducible first | exact HB.out | apply below_alloc | apply pw_below_drewN | apply below_drew1 | refine below_set ?_ GE349.out) | exact HB.out)))); have n2_ := Aside0.mk (blk_below (g := gb349) (o := .cells #[.slice A0_0 l0_0.length c0_0] 24 (0, 0)) (by (with_reducible repeat (first | refine blk_drewN ?_ _ | refine blk_drew ?_ | refine blk_alloc ?_ _)); exact BK349.out) hb); have n3_ := Aside0.mk (below_step (by repeat (first | (with_reducible first | exact HB.out | apply below_alloc | apply pw_below_drewN | apply below_drew1 | refine below_set ?_ GE349.out) | exact HB.out)) hb); clear HO353; clear BK349; clear HB; have HO353 := n0_; have HO358 := n1_; have BK349 := n2_; have HB := n3_; clear n0_ n1_ n2_ n3_; (try clear hb); (try clear hb2); (try clear hk); (try clear hi); (try clear ho0)) | ((with_reducible refine gate_dst (N := 8) rfl ?_); refine box_event ?hg (N := 8) ?hd (cs := #[.slice none 0 0]) (t := 30) ?hr ?_; (case hd => rfl); (case hg => rfl); (case hr => first | (go_simp; done) | (go_simp; rfl)); intro gb359 hg w24 hbox hb; have n0_ := Aside0.mk (Kd.R_below (by (with_reducible repeat (first | apply Kd.R_alloc | apply Kd.R_drewN | apply Kd.R_drew)); exact HO353.out) hb); have n1_ := Aside0.mk (Kd.R_below (by (with_reducible repeat (first | apply Kd.R_alloc | apply Kd.R_drewN | apply Kd.R_drew)); exact HO358.out) hb); have n2_ := Aside0.mk (blk_below (g := gb349) (o := .cells #[.slice A0_0 l0_0.length c0_0] 24 (0, 0)) (by (with_reducible repeat (first | refine blk_drewN ?_ _ | refine blk_drew ?_ | refine blk_alloc ?_ _)); exact BK349.out) hb); have n3_ := Aside0.mk (below_step (by repeat (first | (with_reducible first | exact HB.out | apply below_alloc | apply pw_below_drewN | apply below_drew1 | refine below_set ?_ GE349.out) | exact HB.out)) hb); have n4_ := Aside0.mk (hbox); have n5_ := Aside0.mk ((by rw [hg]; exact (below_size (by repeat (first | (with_reducible first | exact HB.out | apply below_alloc | apply pw_below_drewN | apply below_drew1 | refine below_set ?_ GE349.out) | exact HB.out))) : w.heap.size ≤ gb359)); have n6_ := Aside0.mk ((by rw [hg]; exact (below_size (by repeat (first | (with_reducible first | exact HB.out | apply below_alloc | apply pw_below_drewN | apply below_drew1 | refine below_set ?_ GE349.out) | exact HB.out))) : w.heap.size ≤ gb359)); have n7_ := Aside0.mk ((by rw [hg]; exact Nat.ne_of_lt (blk_lt (g := gb349) (o := .cells #[.slice A0_0 l0_0.length c0_0] 24 (0, 0)) (by (with_reducible repeat (first | refine blk_drewN ?_ _ | refine blk_drew ?_ | refine blk_alloc ?_ _)); exact BK349.out)) : gb349 ≠ gb359)); have n8_ := Aside0.mk ((by rw [hg]; exact Nat.ne_of_gt (blk_lt (g := gb349) (o := .cells #[.slice A0_0 l0_0.length c0_0] 24 (0, 0)) (by (with_reducible repeat (first | refine blk_drewN ?_ _ | refine blk_drew ?_ | refine blk_alloc ?_ _)); exact BK349.out)) : gb359 ≠ gb349)); clear HO353; clear HO358; clear BK349; clear HB; have HO353 := n0_; have HO358 := n1_; have BK349 := n2_; have HB := n3_; have BK359 := n4_; have GW359 := n5_; have GE359 := n6_; have NB349_359 := n7_; have NB359_349 := n8_; clear n0_ n1_ n2_ n3_ n4_ n5_ n6_ n7_ n8_; clear hb hbox hg; obtain ⟨Ao25, co25, eo25⟩ := Kd.R_slice HO358.out; subst eo25; have hnb26 := NB359_349.out; have hnc26 := NB349_359.out; have hcz27_0 : w24.cell? ⟨gb359, 0, none⟩ = some (.slice none 0 0) := (blk_cell BK359.out 0).trans rfl; have hfz27_0 := blk_frozen BK359.out 0) | ((with_reducible refine gate_callee (f := 7) rfl ?_); refine goesL_ (some 31) rfl rfl Tryd.func7 (by kernel_rfl) rfl #[.agg #[.slice Ao25 t356.length co25], .string a1] rfl (by (try simp only [List.map_toArray, List.map_cons, List.map_nil]); first | done | rfl | (simp only [List.length_drop, List.length_take]; rfl)) ?_; (with_reducible refine (impl_CompleteTo.calls k _ _ t356 a1 t360 t361 _ ?side1 ?side2 A13.out).mono ?_); (case side1 => refine (Kd.R_reads' (e := 51) (base := w.heap.size) (ok := fun k_ => (True ∧ some k_ ≠ (.slice Ao20 t351.length co20 : Value).ownBlock)) (n := t356.length) (c := co25) ?_).2.2; exact (by (with_reducible repeat (first | apply Kd.R_alloc | apply Kd.R_drewN | apply Kd.R_drew)); exact (Kd.R_mono (R_same_ (Kd.R_far (p := ⟨gb359, 0, none⟩) (Kd.R_types HO358.out BK359.out (by decide)) (fun _ hk => hk.2) (.slice Ao25 t356.length co25)) rfl) (fun _ h_ => h_.1)))); (case side2 => exact (Kd.R_reads' HO358.out).2.1); rintro e w28 ⟨rfl, hb⟩; refine ⟨_, rfl, ?_⟩; have n0_ := Aside0.mk (Kd.R_below (by (with_reducible repeat (first | apply Kd.R_alloc | apply Kd.R_drewN | apply Kd.R_drew)); exact (Kd.R_mono (R_same_ (Kd.R_far (p := ⟨gb359, 0, none⟩) (Kd.R_types HO353.out BK359.out (by decide)) (fun _ hk => hk.2) (.slice Ao25 t356.length co25)) rfl) (fun _ h_ => h_.1))) hb); have n1_ := Aside0.mk (Kd.R_below (by (with_reducible repeat (first | apply Kd.R_alloc | apply Kd.R_drewN | apply Kd.R_drew)); exact (Kd.R_mono (R_same_ (Kd.R_far (p := ⟨gb359, 0, none⟩) (Kd.R_types HO358.out BK359.out (by decide)) (fun _ hk => hk.2) (.slice Ao25 t356.length co25)) rfl) (fun _ h_ => h_.1))) hb); have n2_ := Aside0.mk (blk_below (g := gb349) (o := .cells #[.slice A0_0 l0_0.length c0_0] 24 (0, 0)) (by (with_reducible repeat (first | refine blk_drewN ?_ _ | refine blk_drew ?_ | refine blk_alloc ?_ _)); refine blk_far ?_ NB349_359.out _; (with_reducible repeat (first | refine blk_drewN ?_ _ | refine blk_drew ?_ | refine blk_alloc ?_ _)); exact BK349.out) hb); have n3_ := Aside0.mk (blk_below (g := gb359) (o := .cells #[.slice Ao25 t356.length co25] 30 (0, 0)) (by (with_reducible repeat (first | refine blk_drewN ?_ _ | refine blk_drew ?_ | refine blk_alloc ?_ _)); refine blk_put (cs := #[.slice none 0 0]) ?_ 0 _ rfl; (with_reducible repeat (first | refine blk_drewN ?_ _ | refine blk_drew ?_ | refine blk_alloc ?_ _)); exact BK359.out) hb); have n4_ := Aside0.mk (below_step (by repeat (first | (with_reducible first | exact HB.out | apply below_alloc | apply pw_below_drewN | apply below_drew1 | refine below_set ?_ GE349.out | refine below_set ?_ GE359.out) | exact HB.out)) hb); clear HO353; clear HO358; clear BK349; clear BK359; clear HB; have HO353 := n0_; have HO358 := n1_; have BK349 := n2_; have BK359 := n3_; have HB := n4_; clear n0_ n1_ n2_ n3_ n4_; (try clear hb); (try clear hb2); (try clear hk); (try clear hi)))
      (try simp only [Act.put, List.setIfInBounds_toArray, List.set_cons_zero, List.set_cons_succ])
      go_cut [41] (fun v41 wc => ∃ (kq : Nat) (x41_13 : Bool), v41 = .bool x41_13 ∧ Aside0 (laws_FnExactCompleteTo.j0 kq x41_13 l0_0 t356 = some true) ∧ Aside0 (kq ≤ k) ∧ Aside0 (Kd.R k51 51 wc w.heap.size (fun _ => True) (.slice Ao25 t356.length co25) t356) ∧ Aside0 (wc.heap[gb349]? = some (.cells #[(.slice A0_0 l0_0.length c0_0)] 24 (0, 0))) ∧ Aside0 (wc.heap[gb359]? = some (.cells #[(.slice Ao25 t356.length co25)] 30 (0, 0))) ∧ Aside0 (Below w.heap.size w wc))
      case first =>
        have H := HC14.out
        clear HC14
        by_cases c29 : t360.toList = t354.toList
        · rw [if_pos c29] at H
          have c29b0 : (t360.toList == t354.toList) = true := beq_iff_eq.mpr c29
          have c29b1 : (t360.toList != t354.toList) = false := bne_eq_false_iff_eq.mpr c29
          clear c29
          (first | rw [c29b0] | (simp only [i64_w, i32_w]; rw [c29b0]) | skip)
          have H' := Aside0.mk H
          clear H
          go_wp2
          go_meet
          case rel => exact ⟨_, ((t361 != t355)), (by first | rfl | (simp; done) | (simp [*]; done)), H', ⟨by first | omega | exact Nat.le_refl _⟩, ⟨by (with_reducible repeat (first | apply Kd.R_alloc | apply Kd.R_drewN | apply Kd.R_drew)); exact Kd.R_mono HO358.out (fun _ hk => trivial)⟩, ⟨by (with_reducible repeat (first | refine blk_drewN ?_ _ | refine blk_drew ?_ | refine blk_alloc ?_ _)); exact BK349.out⟩, ⟨by (with_reducible repeat (first | refine blk_drewN ?_ _ | refine blk_drew ?_ | refine blk_alloc ?_ _)); exact BK359.out⟩, ⟨by repeat (first | (with_reducible first | exact HB.out | apply below_alloc | apply pw_below_drewN | apply below_drew1 | refine below_set ?_ GE349.out | refine below_set ?_ GE359.out) | exact HB.out)⟩⟩
        · rw [if_neg c29] at H
          exact absurd H (by cases k <;> simp [laws_FnExactCompleteTo.j0])
      case rest =>
        clear HC14
        try clear c2
        try clear p2
        try clear c3
        try clear c3b0
        try clear c3b1
        try clear c4
        try clear c5
        try clear c6
        try clear c6b0
        try clear c7
        try clear c26
        try clear c29
        try clear c29b0
        try clear c29b1
        try clear hcz16_0
        try clear hcz18_0
        try clear hcz22_0
        try clear hcz27_0
        try clear hcz8_0
        try clear hfz16_0
        try clear hfz18_0
        try clear hfz22_0
        try clear hfz27_0
        try clear hfz8_0
        obtain ⟨kq, x41_13, rfl, HA, HJ13, HO_360000, BK349, BK359, HB⟩ := hcut
        cases kq with
        | zero => exact absurd HA.out (by simp [laws_FnExactCompleteTo.j0])
        | succ kj13 =>
          have H := HA.out
          clear HA
          simp only [laws_FnExactCompleteTo.j0] at H
          by_cases c30 : x41_13 = true
          · subst c30
            have H1 : (some false) = some true := by rw [if_pos rfl] at H; exact H
            exact absurd H1 (by simp)
          · replace c30 := Bool.eq_false_iff.mpr c30
            subst c30
            have H1 : ((laws_toTrie.f kj13 l0_0).bind fun t362 => ((laws_eqTrie.f kj13 t356 t362).bind fun t365 => (if t365 = true then (some true) else (some false)))) = some true := by rw [if_neg (show ¬ (false = true) by decide)] at H; exact H
            clear H
            have H := H1
            clear H1
            replace H := Option.bind_eq_some_iff.mp H
            obtain ⟨t362, A310, H⟩ := H
            replace H : ((laws_eqTrie.f kj13 t356 t362).bind fun t365 => (if t365 = true then (some true) else (some false))) = some true := H
            have A31 := Aside0.mk A310
            clear A310
            replace H := Option.bind_eq_some_iff.mp H
            obtain ⟨t365, A320, H⟩ := H
            replace H : (if t365 = true then (some true) else (some false)) = some true := H
            have A32 := Aside0.mk A320
            clear A320
            by_cases c33 : t365 = true
            · subst c33
              have H1 : (some true) = some true := rfl
              clear H
              have H := H1
              clear H1
              (first | (obtain rfl := Option.some.inj H) | (have hH_ := Option.some.inj H; try simp only [hH_]))
              try go_wp2
              have n0_ := Aside0.mk (Kd.R_drew HO_360000.out)
              have n1_ := Aside0.mk (blk_drew BK349.out)
              have n2_ := Aside0.mk (blk_drew BK359.out)
              have n3_ := Aside0.mk (below_drew1 HB.out)
              clear HO_360000
              clear BK349
              clear BK359
              clear HB
              have HO_360000 := n0_
              have BK349 := n1_
              have BK359 := n2_
              have HB := n3_
              clear n0_ n1_ n2_ n3_
              refine start_ (n := 5) (S := fun w' => w'.cell? ⟨gb359, 0, none⟩ = some (.slice Ao25 t356.length co25) ∧ w'.cell? ⟨gb349, 0, none⟩ = some (.slice A0_0 l0_0.length c0_0)) (ds := []) #[false, false, false, false, false] (by kernel_rfl) rfl rfl ⟨(blk_cell BK359.out 0).trans rfl, (blk_cell BK349.out 0).trans rfl⟩ (fun hHeld => ?_)
              generalize wc.drew = w34 at HO_360000 BK349 BK359 HB hHeld ⊢
              refine take_ (i := 0) (N := some 42) (v := ?_) (a' := ?_) #[true, false, false, false, false] rfl rfl (by kernel_rfl) (fun _ _ _ h => h) (Or.inl ⟨by rfl, ?_⟩) hHeld ?_ ?_
              rotate_left
              · rintro w' ⟨s0, s1⟩
                go_simp
                with_reducible rfl
              rotate_left
              · simp only [Act.put, List.setIfInBounds_toArray, List.set_cons_zero, List.set_cons_succ, i64_w, i32_w]
                rfl
              refine take_ (i := 1) (N := some 43) (v := ?_) (a' := ?_) #[true, true, false, false, false] rfl rfl (by kernel_rfl) (fun _ _ _ h => h) (Or.inl ⟨by rfl, ?_⟩) hHeld ?_ ?_
              rotate_left
              · rintro w' ⟨s0, s1⟩
                go_simp
                with_reducible rfl
              rotate_left
              · simp only [Act.put, List.setIfInBounds_toArray, List.set_cons_zero, List.set_cons_succ, i64_w, i32_w]
                rfl
              refine one_ (i := 2) (N := some 44) #[true, true, true, false, false] rfl rfl (by kernel_rfl) (by decide) (fun K hK => ?_)
              refine goes_ Tryd.func6 (by kernel_rfl) rfl #[.agg #[.slice A0_0 l0_0.length c0_0]] (by rfl) rfl rfl (by (try simp only [List.map_toArray, List.map_cons, List.map_nil]); first | done | rfl | (simp only [List.length_drop, List.length_take]; rfl)) ?_
              with_reducible refine (laws_toTrie.calls kj13 _ _ l0_0 t362 _ ?side1 ?side2 A31.out).mono ?_
              (case side1 => repeat (first | exact (Kd.C_below HR0_0.out HB.out) | (with_reducible refine Kd.C_alloc ?_ _) | (with_reducible refine Kd.C_drewN ?_ _) | (with_reducible refine Kd.C_drew ?_)))
              (case side2 => exact HC0_0.out)
              rintro e w35 ⟨v363, rfl, ho0, hb⟩
              refine ⟨_, rfl, ?_⟩
              have n0_ := Aside0.mk (Kd.R_elder' (by (with_reducible repeat (first | apply Kd.R_alloc | apply Kd.R_drewN | apply Kd.R_drew)); exact HO_360000.out) (Kd.R_base ho0) hb)
              have n1_ := Aside0.mk (Kd.R_lower (Kd.R_new' ho0 (Kd.R_lt (by (with_reducible repeat (first | apply Kd.R_alloc | apply Kd.R_drewN | apply Kd.R_drew)); exact HO_360000.out))) (below_size (by repeat (first | (with_reducible first | exact HB.out | apply below_alloc | apply pw_below_drewN | apply below_drew1 | refine below_set ?_ GE349.out | refine below_set ?_ GE359.out) | exact HB.out))))
              have n2_ := Aside0.mk (blk_below (g := gb349) (o := .cells #[.slice A0_0 l0_0.length c0_0] 24 (0, 0)) (by (with_reducible repeat (first | refine blk_drewN ?_ _ | refine blk_drew ?_ | refine blk_alloc ?_ _)); exact BK349.out) hb)
              have n3_ := Aside0.mk (blk_below (g := gb359) (o := .cells #[.slice Ao25 t356.length co25] 30 (0, 0)) (by (with_reducible repeat (first | refine blk_drewN ?_ _ | refine blk_drew ?_ | refine blk_alloc ?_ _)); exact BK359.out) hb)
              have n4_ := Aside0.mk (below_step (by repeat (first | (with_reducible first | exact HB.out | apply below_alloc | apply pw_below_drewN | apply below_drew1 | refine below_set ?_ GE349.out | refine below_set ?_ GE359.out) | exact HB.out)) hb)
              clear HO_360000
              clear BK349
              clear BK359
              clear HB
              have HO_360000 := n0_
              have HO364 := n1_
              have BK349 := n2_
              have BK359 := n3_
              have HB := n4_
              clear n0_ n1_ n2_ n3_ n4_
              (try clear hb)
              (try clear hb2)
              (try clear hk)
              (try clear hi)
              (try clear ho0)
              obtain ⟨Ao36, co36, eo36⟩ := Kd.R_slice HO364.out
              (first | subst eo36 | (injection eo36 with f1_ f2_ f3_; have f4_ := f1_.symm; have f5_ := f3_.symm; clear f1_ f2_ f3_; subst f4_; subst f5_))
              refine hK.out _ _ ⟨(blk_cell BK359.out 0).trans rfl, (blk_cell BK349.out 0).trans rfl⟩ (fun hHeld => ?_)
              clear hK K
              refine norm_ (a' := ?_) ?_ ?_
              rotate_left
              · show Act.put _ (some 44) _ = _
                simp only [Act.put, List.setIfInBounds_toArray, List.set_cons_zero, List.set_cons_succ, i64_w, i32_w]
                rfl
              refine one_ (i := 3) (N := some 45) #[true, true, true, true, false] rfl rfl (by kernel_rfl) (by decide) (fun K hK => ?_)
              refine goes_ Tryd.func8 (by kernel_rfl) rfl #[.agg #[.slice Ao25 t356.length co25], .agg #[.slice Ao36 t362.length co36]] (by rfl) rfl rfl (by (try simp only [List.map_toArray, List.map_cons, List.map_nil]); first | done | rfl | (simp only [List.length_drop, List.length_take]; rfl)) ?_
              with_reducible refine (laws_eqTrie.calls kj13 _ _ t356 _ _ t362 true _ ?side1 ?side2 ?side3 ?side4 A32.out).mono ?_
              (case side1 => repeat (first | exact (Kd.R_reads' HO_360000.out).2.2 | (with_reducible refine Kd.C_alloc ?_ _) | (with_reducible refine Kd.C_drewN ?_ _) | (with_reducible refine Kd.C_drew ?_)))
              (case side2 => exact (Kd.R_reads' HO_360000.out).2.1)
              (case side3 => repeat (first | exact (Kd.R_reads' HO364.out).2.2 | (with_reducible refine Kd.C_alloc ?_ _) | (with_reducible refine Kd.C_drewN ?_ _) | (with_reducible refine Kd.C_drew ?_)))
              (case side4 => exact (Kd.R_reads' HO364.out).2.1)
              rintro e w37 ⟨rfl, hb⟩
              refine ⟨_, rfl, ?_⟩
              have n0_ := Aside0.mk (Kd.R_below (by (with_reducible repeat (first | apply Kd.R_alloc | apply Kd.R_drewN | apply Kd.R_drew)); exact HO_360000.out) hb)
              have n1_ := Aside0.mk (Kd.R_below (by (with_reducible repeat (first | apply Kd.R_alloc | apply Kd.R_drewN | apply Kd.R_drew)); exact HO364.out) hb)
              have n2_ := Aside0.mk (blk_below (g := gb349) (o := .cells #[.slice A0_0 l0_0.length c0_0] 24 (0, 0)) (by (with_reducible repeat (first | refine blk_drewN ?_ _ | refine blk_drew ?_ | refine blk_alloc ?_ _)); exact BK349.out) hb)
              have n3_ := Aside0.mk (blk_below (g := gb359) (o := .cells #[.slice Ao25 t356.length co25] 30 (0, 0)) (by (with_reducible repeat (first | refine blk_drewN ?_ _ | refine blk_drew ?_ | refine blk_alloc ?_ _)); exact BK359.out) hb)
              have n4_ := Aside0.mk (below_step (by repeat (first | (with_reducible first | exact HB.out | apply below_alloc | apply pw_below_drewN | apply below_drew1 | refine below_set ?_ GE349.out | refine below_set ?_ GE359.out) | exact HB.out)) hb)
              clear HO_360000
              clear HO364
              clear BK349
              clear BK359
              clear HB
              have HO_360000 := n0_
              have HO364 := n1_
              have BK349 := n2_
              have BK359 := n3_
              have HB := n4_
              clear n0_ n1_ n2_ n3_ n4_
              (try clear hb)
              (try clear hb2)
              (try clear hk)
              (try clear hi)
              refine hK.out _ _ ⟨(blk_cell BK359.out 0).trans rfl, (blk_cell BK349.out 0).trans rfl⟩ (fun hHeld => ?_)
              clear hK K
              refine norm_ (a' := ?_) ?_ ?_
              rotate_left
              · show Act.put _ (some 45) _ = _
                simp only [Act.put, List.setIfInBounds_toArray, List.set_cons_zero, List.set_cons_succ, i64_w, i32_w]
                rfl
              refine pure_ (i := 4) (N := some 46) (v := ?_) (a' := ?_) #[true, true, true, true, true] rfl rfl (by kernel_rfl) (fun _ _ _ h => h) (Or.inl ⟨by rfl, ?_⟩) ?_ ?_
              rotate_left
              · intro w'
                go_simp
                with_reducible rfl
              rotate_left
              · simp only [Act.put, List.setIfInBounds_toArray, List.set_cons_zero, List.set_cons_succ, i64_w, i32_w]
                rfl
              refine done_ (by kernel_rfl) ?_
              try go_wp2
              go_ret
              exact ⟨by first | rfl | (simp [errW_none, errW_some] <;> rfl) | (simp [*, errW_none, errW_some] <;> rfl), by repeat (first | (with_reducible first | exact HB.out | apply below_alloc | apply pw_below_drewN | apply below_drew1 | refine below_set ?_ GE349.out | refine below_set ?_ GE359.out) | exact HB.out)⟩
            · replace c33 := Bool.eq_false_iff.mpr c33
              subst c33
              have H1 : (some false) = some true := by rw [if_neg (show ¬ (false = true) by decide)] at H; exact H
              exact absurd H1 (by simp)
end Go.Proofs.YtcgcicngfemnlaaDoor.Q
namespace Go.Proofs.YtcgcicngfemnlaaDoor.Q
open Go.RowKit Go.Proofs.YtcgcicngfemnlaaDoorW.PrintWords Go.Proofs.YtcgcicngfemnlaaDoorW.PrintLast
def Ev {α : Type} (F : Nat → Option α) (r : α) : Prop := ∃ K, ∀ k, K ≤ k → F k = some r
theorem Ev.pure {α : Type} (r : α) : Ev (fun _ => some r) r := ⟨0, fun _ _ => rfl⟩
theorem Ev.const {α : Type} {x : Option α} {r : α} (h : x = some r) : Ev (fun _ => x) r := ⟨0, fun _ _ => h⟩
theorem Ev.succ {α : Type} {F : Nat → Option α} {r : α} (h : Ev (fun k => F (k + 1)) r) : Ev F r := by
  obtain ⟨K, h⟩ := h
  refine ⟨K + 1, fun k hk => ?_⟩
  obtain ⟨j, rfl⟩ : ∃ j, k = j + 1 := ⟨k - 1, by omega⟩
  exact h j (by omega)
theorem Ev.bind {α β : Type} {F : Nat → Option α} {G : Nat → α → Option β} {t : α} {r : β} (h : Ev F t) (h2 : Ev (fun k => G k t) r) : Ev (fun k => (F k).bind (G k)) r := by
  obtain ⟨K, h⟩ := h
  obtain ⟨K2, h2⟩ := h2
  refine ⟨max K K2, fun k hk => ?_⟩
  simp only [h k (by omega), Option.bind_some]
  exact h2 k (by omega)
theorem Ev.bindc {α β : Type} {x : Option α} {G : Nat → α → Option β} {t : α} {r : β} (h : x = some t) (h2 : Ev (fun k => G k t) r) : Ev (fun k => x.bind (G k)) r := Ev.bind (Ev.const h) h2
theorem Ev.pos {α : Type} {c : Prop} [Decidable c] {F G : Nat → Option α} {r : α} (hc : c) (h : Ev F r) : Ev (fun k => if c then F k else G k) r := by simpa only [if_pos hc] using h
theorem Ev.neg {α : Type} {c : Prop} [Decidable c] {F G : Nat → Option α} {r : α} (hc : ¬ c) (h : Ev G r) : Ev (fun k => if c then F k else G k) r := by simpa only [if_neg hc] using h
theorem Ev.eq {α : Type} {F G : Nat → Option α} {r : α} (h : Ev F r) (e : ∀ k, G k = F k) : Ev G r := by obtain ⟨K, h⟩ := h; exact ⟨K, fun k hk => (e k).trans (h k hk)⟩
theorem Ev.ex {α : Type} {F : Nat → Option α} {r : α} (h : Ev F r) : ∃ k, F k = some r := by obtain ⟨K, h⟩ := h; exact ⟨K, h K (Nat.le_refl _)⟩
theorem wnext (i : Nat) (h : i ≤ 4611686018427387904) : wrap64 ((i : Int) + 1) = ((i + 1 : Nat) : Int) := by unfold wrap64; omega
end Go.Proofs.YtcgcicngfemnlaaDoor.Q
namespace Go.Proofs.YtcgcicngfemnlaaDoor.Q
open Go.RowKit Go.Proofs.YtcgcicngfemnlaaDoorW.PrintWords Go.Proofs.YtcgcicngfemnlaaDoorW.PrintLast
abbrev LN := S54
abbrev IN := S51
instance : DecidableEq IN := fun a b => decidable_of_iff (a.f0 = b.f0 ∧ a.f1 = b.f1 ∧ a.f2 = b.f2) ⟨fun h => by
  obtain ⟨a0, a1, a2⟩ := a
  obtain ⟨b0, b1, b2⟩ := b
  obtain ⟨rfl, rfl, rfl⟩ := h
  rfl, fun h => by subst h; exact ⟨rfl, rfl, rfl⟩⟩
def cv (l : List LN) : List IN := l.map fun x => ⟨x.f0, x.f1, x.f2⟩
theorem cv_length (l : List LN) : (cv l).length = l.length := List.length_map _
theorem toNodeS_l0 (l : List LN) (hl : l.length ≤ 1048576) : ∀ (n i : Nat), i + n = l.length → Ev (fun k => laws_toNodeS.l0 k l ((cv l).take i ++ List.replicate n z51) (i : Int)) (cv l) := by
  intro n
  induction n with
  | zero =>
    intro i h
    refine Ev.succ ?_
    simp only [laws_toNodeS.l0]
    refine Ev.neg (by omega) ?_
    rw [List.take_of_length_le (by rw [cv_length]; omega), List.replicate_zero, List.append_nil]
    exact Ev.pure _
  | succ n ih =>
    intro i h
    refine Ev.succ ?_
    simp only [laws_toNodeS.l0]
    have hlen : ((cv l).take i ++ List.replicate (n + 1) z51).length = l.length := by simp [cv_length]; omega
    refine Ev.pos (by omega) (Ev.pos (by omega) (Ev.bindc rfl (Ev.pos (by rw [hlen]; omega) ?_)))
    refine (ih (i + 1) (by omega)).eq fun k => ?_
    rw [wnext i (by omega)]
    congr 1
    have hi : i < l.length := by omega
    have e1 : (cv l).take (i + 1) = (cv l).take i ++ [⟨l[i].f0, l[i].f1, l[i].f2⟩] := by
      rw [List.take_succ_eq_append_getElem (by rw [cv_length]; omega)]
      simp [cv]
    rw [e1, Int.toNat_natCast, List.set_append_right _ _ (by simp; omega)]
    have e2 : i - ((cv l).take i).length = 0 := by simp [cv_length]; omega
    rw [e2, List.replicate_succ, List.set_cons_zero]
    simp [rd_T54, hi]
theorem toTrie_ev (l : List LN) (hl : l.length ≤ 1048576) : Ev (fun k => laws_toTrie.f k l) (cv l) := by
  unfold laws_toTrie.f laws_toNodeS.f
  refine Ev.bind (t := cv l) ?_ (Ev.pure _)
  refine Ev.pos (by omega) (Ev.pos (by omega) ?_)
  have := toNodeS_l0 l hl l.length 0 (by omega)
  simpa using this
theorem szTrie_eq (l : List LN) (hl : l.length ≤ 9223372036854775807) : laws_szTrie.f l 1048576 = some (if l.length ≤ 1048576 then (1048576 - l.length : Int) else -1) := by
  unfold laws_szTrie.f laws_szNodeS.f
  have e : wrap64 (1048576 - (l.length : Int)) = 1048576 - (l.length : Int) := by unfold wrap64; omega
  rw [e]
  by_cases h : l.length ≤ 1048576
  · rw [if_neg (show ¬ ((1048576 : Int) - l.length < 0) by omega), Option.bind_some, if_neg (show ¬ ((1048576 : Int) - l.length < 0) by omega), if_pos h]
  · rw [if_pos (show ((1048576 : Int) - l.length < 0) by omega), Option.bind_some, if_pos (by decide), if_neg h]
theorem eqNode_eq (a b : IN) : laws_eqNode.f a.f0 a.f1 a.f2 b.f0 b.f1 b.f2 = some (decide (a = b)) := by
  obtain ⟨a0, a1, a2⟩ := a
  obtain ⟨b0, b1, b2⟩ := b
  unfold laws_eqNode.f
  by_cases h0 : a0 = b0
  · by_cases h1 : a1 = b1
    · cases a2 <;> cases b2 <;> simp [h0, h1]
    · simp [h0, h1]
  · simp [h0]
theorem rd_nat' (l : List IN) (i : Nat) (h : i < l.length) : rd_T51 l (i : Int) = l[i] := by simp [rd_T51, h]
theorem eqNodeS_l0 (a b : List IN) (hab : a.length = b.length) (hl : a.length ≤ 1048576) : ∀ (n i : Nat), i + n = a.length → Ev (fun k => laws_eqNodeS.l0 k a b (i : Int)) (decide (a.drop i = b.drop i)) := by
  intro n
  induction n with
  | zero =>
    intro i h
    refine Ev.succ ?_
    simp only [laws_eqNodeS.l0]
    refine Ev.neg (by omega) ?_
    rw [List.drop_of_length_le (by omega), List.drop_of_length_le (by omega)]
    exact Ev.pure _
  | succ n ih =>
    intro i h
    refine Ev.succ ?_
    simp only [laws_eqNodeS.l0]
    have hi : i < a.length := by omega
    have hi2 : i < b.length := by omega
    refine Ev.pos (by omega) (Ev.pos (by omega) (Ev.pos (by omega) ?_))
    simp only [eqNode_eq, Option.bind_some, rd_nat' a i hi, rd_nat' b i hi2]
    have hd : (a.drop i = b.drop i) ↔ (a[i] = b[i] ∧ a.drop (i + 1) = b.drop (i + 1)) := by
      rw [List.drop_eq_getElem_cons hi, List.drop_eq_getElem_cons hi2]
      exact List.cons_eq_cons
    rw [decide_eq_decide.2 hd]
    by_cases e : a[i] = b[i]
    · refine Ev.pos (by simp [e]) ?_
      rw [wnext i (by omega)]
      have hq := ih (i + 1) (by omega)
      have e2 : decide (a[i] = b[i] ∧ a.drop (i + 1) = b.drop (i + 1)) = decide (a.drop (i + 1) = b.drop (i + 1)) := decide_eq_decide.2 (and_iff_right e)
      rw [e2]
      exact hq
    · refine Ev.neg (by simp [e]) ?_
      have e2 : decide (a[i] = b[i] ∧ a.drop (i + 1) = b.drop (i + 1)) = false := decide_eq_false (fun h => e h.1)
      rw [e2]
      exact Ev.pure _
theorem eqTrie_ev (a b : List IN) (hl : a.length ≤ 1048576) : Ev (fun k => laws_eqTrie.f k a b) (decide (a = b)) := by
  unfold laws_eqTrie.f laws_eqNodeS.f
  by_cases hab : a.length = b.length
  · refine Ev.bind (t := decide (a = b)) (Ev.pos (by omega) ?_) ?_
    · simpa using eqNodeS_l0 a b hab hl a.length 0 (by omega)
    · by_cases e : a = b
      · simp only [e, decide_true, if_true]; exact Ev.pure _
      · simp only [e, decide_false, Bool.false_eq_true, if_false]; exact Ev.pure _
  · have e : a ≠ b := fun h => hab (congrArg List.length h)
    refine Ev.bind (t := false) (Ev.neg (by omega) (Ev.pure _)) ?_
    simp only [e, decide_false, Bool.false_eq_true, if_false]
    exact Ev.pure _
end Go.Proofs.YtcgcicngfemnlaaDoor.Q
namespace Go.Proofs.YtcgcicngfemnlaaDoor.Q
open Go.RowKit Go.Proofs.YtcgcicngfemnlaaDoorW.PrintWords Go.Proofs.YtcgcicngfemnlaaDoorW.PrintLast
def letterW (n : Int) : ByteArray := strOfNums [(wrap64 (97 + n)) % 256]
def prefsW : List ByteArray → List IN → Option (List ByteArray)
  | ps, [] => some ps
  | ps, n :: rest => if 0 ≤ n.f1 ∧ n.f1 < ps.length ∧ 0 ≤ n.f0 ∧ n.f0 ≤ 25 then prefsW (ps ++ [rdOf ByteArray.empty ps n.f1 ++ letterW n.f0]) rest else none
def wordsW : List IN → List ByteArray → List ByteArray
  | n :: l, p :: ps => if n.f2 = true then p :: wordsW l ps else wordsW l ps
  | _, _ => []
def resP : Option (List ByteArray) → List ByteArray × Bool
  | some r => (r, true)
  | none => ([], false)
theorem in_eq (a b c : Int) : impl_in.f a b c = some (decide (b ≤ a ∧ a ≤ c)) := by
  unfold impl_in.f
  by_cases h : b ≤ a
  · rw [if_pos h]; congr 1; exact decide_eq_decide.2 (by omega)
  · rw [if_neg (by omega)]; congr 1; exact (decide_eq_false (by omega)).symm
theorem letterW_size (n : Int) : (letterW n).size = 1 := by
  simp [letterW, strOfNums, ByteArray.size]
theorem size_app (a b : ByteArray) : (a ++ b).size = a.size + b.size := by simp
theorem prefixes_l0 (y : List IN) (hy : y.length ≤ 1000) : ∀ (n i : Nat) (ps : List ByteArray), i + n = y.length → ps.length = i + 1 → (∀ p ∈ ps, p.size ≤ ps.length) →
    Ev (fun k => impl_Trie_prefixes.l0 k ps y (y.length : Int) (i : Int)) (resP (prefsW ps (y.drop i))) := by
  intro n
  induction n with
  | zero =>
    intro i ps h hp hs
    refine Ev.succ ?_
    simp only [impl_Trie_prefixes.l0]
    rw [List.drop_of_length_le (by omega)]
    exact Ev.neg (by omega) (Ev.pure _)
  | succ n ih =>
    intro i ps h hp hs
    refine Ev.succ ?_
    simp only [impl_Trie_prefixes.l0, in_eq, impl_letter.f, Option.bind_some]
    have hi : i < y.length := by omega
    rw [List.drop_eq_getElem_cons hi]
    simp only [rd_nat' y i hi, prefsW]
    refine Ev.pos (by omega) (Ev.pos (by omega) (Ev.pos (by omega) ?_))
    by_cases h1 : 0 ≤ y[i].f1 ∧ y[i].f1 ≤ (i : Int)
    · refine Ev.pos (by simpa using h1) ?_
      by_cases h2 : 0 ≤ y[i].f0 ∧ y[i].f0 ≤ 25
      · refine Ev.pos (by simpa using h2) (Ev.pos h1.1 (Ev.pos (by omega) ?_))
        rw [if_pos (by omega)]
        have hmem : rdOf ByteArray.empty ps y[i].f1 ∈ ps := at_mem h1.1 (by omega)
        have hsz := hs _ hmem
        have hls := letterW_size y[i].f0
        have hls' : (strOfNums [(wrap64 (97 + y[i].f0)) % 256]).size = 1 := hls
        refine Ev.pos (by rw [hls']; omega) (Ev.pos (by omega) ?_)
        rw [wnext i (by omega)]
        refine ih (i + 1) _ (by omega) (by simp; omega) (fun p hp2 => ?_)
        rw [List.length_append, List.length_singleton]
        rcases List.mem_append.1 hp2 with h3 | h3
        · have := hs p h3; omega
        · rw [List.mem_singleton.1 h3, size_app]
          have : (letterW y[i].f0).size = 1 := hls
          omega
      · rw [if_neg (by omega)]
        exact Ev.neg (by simpa using h2) (Ev.pure _)
    · rw [if_neg (by omega)]
      exact Ev.neg (by simpa using h1) (Ev.pure _)
def prefixesW (l : List IN) : Option (List ByteArray) := if 1 ≤ l.length ∧ l.length ≤ 481 then prefsW [ByteArray.empty] (l.drop 1) else none
theorem prefixes_ev (l : List IN) : Ev (fun k => impl_Trie_prefixes.f k l) (resP (prefixesW l)) := by
  unfold impl_Trie_prefixes.f prefixesW
  simp only [in_eq, Option.bind_some]
  by_cases h : 1 ≤ l.length ∧ l.length ≤ 481
  · rw [if_pos h]
    refine Ev.pos (by simp; omega) (Ev.pos (by omega) ?_)
    have := prefixes_l0 (l.drop 1) (by simp; omega) (l.drop 1).length 0 [ByteArray.empty] (by omega) rfl (fun p hp => by rw [List.mem_singleton.1 hp]; exact Nat.zero_le _)
    rw [List.drop_zero] at this
    exact this
  · rw [if_neg h]
    exact Ev.neg (by simp; omega) (Ev.pure _)
theorem prefsW_length : ∀ {l : List IN} {ps r : List ByteArray}, prefsW ps l = some r → r.length = ps.length + l.length
  | [], ps, r, h => by
    simp only [prefsW] at h
    injection h with h
    subst h; rfl
  | n :: l, ps, r, h => by
    simp only [prefsW] at h
    split at h
    · have := prefsW_length h
      simp at this ⊢
      omega
    · cases h
theorem prefixesW_length {l : List IN} {r : List ByteArray} (h : prefixesW l = some r) : r.length = l.length ∧ l.length ≤ 481 ∧ 1 ≤ l.length := by
  unfold prefixesW at h
  split at h
  · rename_i hl
    have := prefsW_length h
    simp at this
    omega
  · cases h
theorem words_l0 (ps : List ByteArray) (l : List IN) (hl : l.length ≤ 1000) (hp : ps.length = l.length) : ∀ (n i : Nat) (acc : List ByteArray), i + n = l.length → acc.length ≤ i →
    Ev (fun k => impl_Trie_words.l0 k ps acc l (l.length : Int) (i : Int)) (acc ++ wordsW (l.drop i) (ps.drop i)) := by
  intro n
  induction n with
  | zero =>
    intro i acc h ha
    refine Ev.succ ?_
    simp only [impl_Trie_words.l0]
    rw [List.drop_of_length_le (by omega), List.drop_of_length_le (by omega)]
    simp only [wordsW, List.append_nil]
    exact Ev.neg (by omega) (Ev.pure _)
  | succ n ih =>
    intro i acc h ha
    refine Ev.succ ?_
    simp only [impl_Trie_words.l0]
    have hi : i < l.length := by omega
    have hi2 : i < ps.length := by omega
    rw [List.drop_eq_getElem_cons hi, List.drop_eq_getElem_cons hi2]
    simp only [rd_nat' l i hi, rd_nat ps hi2, wordsW]
    refine Ev.pos (by omega) (Ev.pos (by omega) (Ev.pos (by omega) ?_))
    rw [wnext i (by omega)]
    by_cases e : l[i].f2 = true
    · refine Ev.pos e (Ev.pos (by omega) (Ev.pos (by omega) ?_))
      have := ih (i + 1) (acc ++ [ps[i]]) (by omega) (by simp; omega)
      rw [if_pos e]
      simpa using this
    · refine Ev.neg e ?_
      rw [if_neg e]
      exact ih (i + 1) acc (by omega) (by omega)
theorem words_ev (l : List IN) (ps : List ByteArray) (h : prefixesW l = some ps) : Ev (fun k => impl_Trie_words.f k l) (wordsW l ps) := by
  unfold impl_Trie_words.f
  have hl := prefixesW_length h
  refine Ev.bind (prefixes_ev l) ?_
  rw [h]
  have := words_l0 ps l (by omega) hl.1 l.length 0 [] (by omega) (by simp)
  simpa [resP] using this
theorem node_l0 (a b : List IN) (hab : a.length = b.length) (hl : a.length ≤ 1048576) : ∀ (n i : Nat), i + n = a.length → Ev (fun k => impl_Node.l0 k a b (a.length : Int) (i : Int)) (decide (a.drop i = b.drop i)) := by
  intro n
  induction n with
  | zero =>
    intro i h
    refine Ev.succ ?_
    simp only [impl_Node.l0]
    refine Ev.neg (by omega) ?_
    rw [List.drop_of_length_le (by omega), List.drop_of_length_le (by omega)]
    exact Ev.pure _
  | succ n ih =>
    intro i h
    refine Ev.succ ?_
    simp only [impl_Node.l0]
    have hi : i < a.length := by omega
    have hi2 : i < b.length := by omega
    refine Ev.pos (by omega) (Ev.pos (by omega) (Ev.pos (by omega) (Ev.pos (by omega) ?_)))
    simp only [rd_nat' a i hi, rd_nat' b i hi2]
    have hd : (a.drop i = b.drop i) ↔ (a[i] = b[i] ∧ a.drop (i + 1) = b.drop (i + 1)) := by
      rw [List.drop_eq_getElem_cons hi, List.drop_eq_getElem_cons hi2]
      exact List.cons_eq_cons
    have hne : ∀ x y : IN, (!(x.f0 == y.f0) || (!(x.f1 == y.f1) || !(x.f2 == y.f2))) = !decide (x = y) := fun x y => by
      obtain ⟨x0, x1, x2⟩ := x
      obtain ⟨y0, y1, y2⟩ := y
      by_cases h0 : x0 = y0 <;> by_cases h1 : x1 = y1 <;> by_cases h2 : x2 = y2 <;> simp [h0, h1, h2]
    rw [decide_eq_decide.2 hd, hne]
    by_cases e : a[i] = b[i]
    · refine Ev.neg (by simp [e]) ?_
      rw [wnext i (by omega)]
      have hq := ih (i + 1) (by omega)
      have e2 : decide (a[i] = b[i] ∧ a.drop (i + 1) = b.drop (i + 1)) = decide (a.drop (i + 1) = b.drop (i + 1)) := decide_eq_decide.2 (and_iff_right e)
      rw [e2]
      exact hq
    · refine Ev.pos (by simp [e]) ?_
      have e2 : decide (a[i] = b[i] ∧ a.drop (i + 1) = b.drop (i + 1)) = false := decide_eq_false (fun h => e h.1)
      rw [e2]
      exact Ev.pure _
theorem node_ev (a b : List IN) (hl : a.length ≤ 1048576) : Ev (fun k => impl_Node.f k a b) (decide (a = b)) := by
  unfold impl_Node.f
  by_cases hab : a.length = b.length
  · refine Ev.pos (by omega) ?_
    simpa using node_l0 a b hab hl a.length 0 (by omega)
  · have e : a ≠ b := fun h => hab (congrArg List.length h)
    rw [decide_eq_false e]
    exact Ev.neg (by omega) (Ev.pure _)
theorem sorted_l0 (l : List ByteArray) (hl : l.length ≤ 1000000) : ∀ (i : Nat), i < l.length → Ev (fun k => slices_IsSorted_string_string.l0 k l (i : Int)) (decide (∀ j, j < i → atW l (j : Int) ≤ atW l ((j + 1 : Nat) : Int))) := by
  intro i
  induction i with
  | zero =>
    intro h
    refine Ev.succ ?_
    simp only [slices_IsSorted_string_string.l0]
    rw [decide_eq_true (fun j hj => absurd hj (Nat.not_lt_zero _))]
    exact Ev.neg (by omega) (Ev.pure _)
  | succ i ih =>
    intro h
    refine Ev.succ ?_
    have e1 : wrap64 (((i + 1 : Nat) : Int) - 1) = (i : Int) := by unfold wrap64; omega
    simp only [slices_IsSorted_string_string.l0, less_pure, Option.bind_some, e1]
    refine Ev.pos (by omega) (Ev.pos (by omega) (Ev.pos (by omega) (Ev.pos (by omega) (Ev.pos (by omega) ?_))))
    by_cases hlt : atW l ((i + 1 : Nat) : Int) < atW l (i : Int)
    · have e2 : decide (∀ j, j < i + 1 → atW l (j : Int) ≤ atW l ((j + 1 : Nat) : Int)) = false := decide_eq_false (fun hf => absurd hlt (List.not_lt.2 (hf i (by omega))))
      rw [e2]
      exact Ev.pos (decide_eq_true hlt) (Ev.pure _)
    · refine Ev.neg (fun h2 => hlt (of_decide_eq_true h2)) ?_
      have hq := ih (by omega)
      have e2 : decide (∀ j, j < i + 1 → atW l (j : Int) ≤ atW l ((j + 1 : Nat) : Int)) = decide (∀ j, j < i → atW l (j : Int) ≤ atW l ((j + 1 : Nat) : Int)) := decide_eq_decide.2 ⟨fun hf j hj => hf j (by omega), fun hf j hj => by
        by_cases ej : j = i
        · subst ej; exact List.not_lt.1 hlt
        · exact hf j (by omega)⟩
      rw [e2]
      exact hq
theorem adj_SW (l : List ByteArray) : (∀ j, j < l.length - 1 → atW l (j : Int) ≤ atW l ((j + 1 : Nat) : Int)) ↔ SW l := by
  constructor
  · intro h
    unfold SW
    rw [List.pairwise_iff_getElem]
    have key : ∀ d i, i + d < l.length → atW l (i : Int) ≤ atW l ((i + d : Nat) : Int) := by
      intro d
      induction d with
      | zero => intro i _; exact List.le_refl _
      | succ d ih =>
        intro i hi
        exact List.le_trans (ih i (by omega)) (h (i + d) (by omega))
    intro i j hi hj hij
    have := key (j - i) i (by omega)
    rw [show i + (j - i) = j by omega] at this
    simpa [atW, rdOf, hi, hj] using this
  · intro h j hj
    exact h.at (by omega) (by omega) (by omega)
instance (l : List ByteArray) : Decidable (SW l) := inferInstanceAs (Decidable (l.Pairwise fun a b => lw a ≤ lw b))
theorem sorted_ev (l : List ByteArray) (hl : l.length ≤ 1000000) : Ev (fun k => slices_IsSorted_string_string.f k l) (decide (SW l)) := by
  unfold slices_IsSorted_string_string.f
  by_cases h0 : l.length = 0
  · obtain rfl := List.eq_nil_of_length_eq_zero h0
    refine Ev.succ ?_
    simp only [slices_IsSorted_string_string.l0]
    rw [decide_eq_true (show SW [] from List.Pairwise.nil)]
    exact Ev.neg (by simp [wrap64]) (Ev.pure _)
  · have e : wrap64 ((l.length : Int) - 1) = ((l.length - 1 : Nat) : Int) := by unfold wrap64; omega
    rw [e, ← decide_eq_decide.2 (adj_SW l)]
    exact sorted_l0 l hl (l.length - 1) (by omega)
def isTrieW (l : List IN) : Bool :=
  match prefixesW l with
  | none => false
  | some ps => if ps.any longW then false else
    decide ((wordsW l ps).length ≤ 40) && (decide (SW (wordsW l ps)) && decide (trieW (wordsW l ps) = l))
theorem wordsW_mem : ∀ {l : List IN} {ps : List ByteArray} {x : ByteArray}, x ∈ wordsW l ps → x ∈ ps
  | [], ps, x, h => by simp [wordsW] at h
  | n :: l, [], x, h => by simp [wordsW] at h
  | n :: l, p :: ps, x, h => by
    simp only [wordsW] at h
    split at h
    · rcases List.mem_cons.1 h with rfl | h
      · exact List.mem_cons_self
      · exact List.mem_cons_of_mem _ (wordsW_mem h)
    · exact List.mem_cons_of_mem _ (wordsW_mem h)
theorem allPfx_len : ∀ (ws : List ByteArray), (∀ w ∈ ws, w.size ≤ 12) → (allPfx ws).length ≤ 1 + 12 * ws.length := by
  intro ws h
  unfold allPfx
  rw [List.length_cons]
  have : (ws.flatMap fun w => pfx w w.size).length ≤ 12 * ws.length := by
    induction ws with
    | nil => simp
    | cons w ws ih =>
      rw [List.flatMap_cons, List.length_append, List.length_cons]
      have h1 := ih (fun x hx => h x (List.mem_cons_of_mem _ hx))
      have h2 := h w List.mem_cons_self
      have h3 : (pfx w w.size).length = w.size := by simp [pfx]
      omega
  omega
theorem okTrieOf_of {ws : List ByteArray} (h12 : ∀ w ∈ ws, w.size ≤ 12) (h40 : ws.length ≤ 1000000) (hs : SW ws) : impl_trieOf.f ws = some (trieW ws) := by
  unfold impl_trieOf.f okTrieOf
  have := allPfx_len ws h12
  rw [if_pos]
  simp only [Bool.and_eq_true, decide_eq_true_eq]
  exact ⟨⟨by omega, by omega⟩, hs⟩
theorem prefW_le (ws : List ByteArray) (h : ∀ w ∈ ws, w.size ≤ 12) : (prefW ws).length ≤ 1 + 12 * ws.length := Nat.le_trans (prefW_len ws) (allPfx_len ws h)
theorem trieW_length (ws : List ByteArray) : (trieW ws).length = (prefW ws).length := List.length_map _
theorem isTrie_ev (l : List IN) : Ev (fun k => impl_isTrie.f k l) (isTrieW l) := by
  unfold impl_isTrie.f isTrieW
  refine Ev.bind (prefixes_ev l) ?_
  cases hp : prefixesW l with
  | none =>
    simp only [resP]
    refine Ev.neg (by decide) (Ev.succ ?_)
    simp only [impl_isTrie.j0]
    exact Ev.pos trivial (Ev.pure _)
  | some ps =>
    simp only [resP]
    have hl := prefixesW_length hp
    refine Ev.pos trivial (Ev.bindc (t := ps.any longW) (by unfold slices_ContainsFunc_string_string_impl_isTrie_1.f; rw [if_pos (by omega)]) (Ev.succ ?_))
    simp only [impl_isTrie.j0]
    by_cases h12 : ps.any longW = true
    · rw [if_pos h12]
      exact Ev.pos h12 (Ev.pure _)
    · rw [if_neg h12]
      refine Ev.neg h12 (Ev.bind (words_ev l ps hp) ?_)
      have hsz : ∀ w ∈ wordsW l ps, w.size ≤ 12 := fun w hw => by
        have h1 : ¬ longW w = true := fun h2 => h12 (List.any_eq_true.2 ⟨w, wordsW_mem hw, h2⟩)
        simp [longW] at h1
        omega
      by_cases h40 : (wordsW l ps).length ≤ 40
      · rw [decide_eq_true h40, Bool.true_and]
        refine Ev.pos (by omega) (Ev.bind (sorted_ev _ (by omega)) ?_)
        by_cases hs : SW (wordsW l ps)
        · rw [decide_eq_true hs, Bool.true_and]
          have hle := prefW_le _ hsz
          refine Ev.pos rfl (Ev.bindc (okTrieOf_of hsz (by omega) hs) (Ev.bind (node_ev _ _ (by rw [trieW_length]; omega)) (Ev.pure _)))
        · rw [decide_eq_false hs, Bool.false_and]
          exact Ev.neg (by decide) (Ev.pure _)
      · rw [decide_eq_false h40, Bool.false_and]
        exact Ev.neg (by omega) (Ev.pure _)
end Go.Proofs.YtcgcicngfemnlaaDoor.Q
namespace Go.Proofs.YtcgcicngfemnlaaDoor.Q
open Go.RowKit Go.Proofs.YtcgcicngfemnlaaDoorW.PrintWords Go.Proofs.YtcgcicngfemnlaaDoorW.PrintLast
def letters (w : ByteArray) : Prop := ∀ x ∈ lw w, 97 ≤ x.toNat ∧ x.toNat ≤ 122
def okWord (w : ByteArray) : Prop := w.size ≤ 12 ∧ letters w
structure VW (ws : List ByteArray) : Prop where
  ss : SS ws
  ok : ∀ w ∈ ws, okWord w
  len : ws.length ≤ 40
def V (l : List IN) : Prop := ∃ ws, VW ws ∧ l = trieW ws
theorem letters_empty : letters ByteArray.empty := fun x hx => by cases hx
theorem letters_cut {w : ByteArray} (h : letters w) (n : Nat) : letters (w.extract 0 n) := fun x hx => by
  rw [lw_extract] at hx
  exact h x (List.mem_of_mem_take hx)
theorem prefW_ok {ws : List ByteArray} (h : ∀ w ∈ ws, okWord w) {p : ByteArray} (hp : p ∈ prefW ws) : okWord p := by
  rcases mem_prefW.1 hp with rfl | ⟨w, hw, j, hj, rfl⟩
  · exact ⟨Nat.zero_le _, letters_empty⟩
  · have := (h w hw).1
    exact ⟨by rw [ext_size _ _ (by omega)]; omega, letters_cut (h w hw).2 _⟩
theorem prefW_pos (ws : List ByteArray) : 0 < (prefW ws).length := List.length_pos_of_mem (mem_prefW.2 (.inl rfl))
theorem prefW_zero (ws : List ByteArray) : rdOf ByteArray.empty (prefW ws) 0 = ByteArray.empty := by
  obtain ⟨k, hk, e⟩ := List.getElem_of_mem (mem_prefW.2 (.inl rfl) : ByteArray.empty ∈ prefW ws)
  by_cases h0 : k = 0
  · subst h0
    have := rd_nat (prefW ws) hk
    exact this.trans e
  · have h1 := ss_at (prefW_ss ws) (show 0 < k by omega) hk
    rw [rd_nat _ hk, e] at h1
    exact absurd h1 (List.not_lt_nil _)
theorem prefW_nonzero (ws : List ByteArray) {k : Nat} (h0 : 0 < k) (hk : k < (prefW ws).length) : (rdOf ByteArray.empty (prefW ws) (k : Int)).size ≠ 0 := fun e => by
  have h1 := ss_at (prefW_ss ws) h0 hk
  have h2 : lw (rdOf ByteArray.empty (prefW ws) (k : Int)) = [] := List.eq_nil_of_length_eq_zero (by rw [lw_length]; exact e)
  rw [h2] at h1
  exact absurd h1 (List.not_lt_nil _)
theorem lw_app (a b : ByteArray) : lw (a ++ b) = lw a ++ lw b := by simp [lw]
theorem lw_letterW (n : Int) (h0 : 0 ≤ n) (h1 : n ≤ 25) : lw (letterW n) = [UInt8.ofNat (97 + n.toNat)] := by
  have e : (wrap64 (97 + n)) % 256 = ((97 + n.toNat : Nat) : Int) := by unfold wrap64; omega
  unfold letterW
  rw [e]
  rfl
theorem cut_last {p : ByteArray} (h : letters p) (h0 : p.size ≠ 0) : 0 ≤ (bt p ((p.size : Int) - 1) + 159) % 256 ∧ (bt p ((p.size : Int) - 1) + 159) % 256 ≤ 25 ∧ p.extract 0 (p.size - 1) ++ letterW ((bt p ((p.size : Int) - 1) + 159) % 256) = p := by
  have e : ((p.size : Int) - 1).toNat = p.size - 1 := by omega
  have hlt : p.size - 1 < p.size := by omega
  have hl : p.size - 1 < (lw p).length := by rw [lw_length]; omega
  have hb : bt p ((p.size : Int) - 1) = ((p[p.size - 1]'hlt).toNat : Int) := by simp [bt, e, hlt]
  have hx : (lw p)[p.size - 1]'hl = p[p.size - 1]'hlt := rfl
  have hr := h _ (List.getElem_mem hl)
  rw [hx] at hr
  rw [hb]
  have h1 : (((p[p.size - 1]'hlt).toNat : Int) + 159) % 256 = ((p[p.size - 1]'hlt).toNat : Int) - 97 := by omega
  rw [h1]
  refine ⟨by omega, by omega, lw_inj ?_⟩
  rw [lw_app, lw_extract, lw_letterW _ (by omega) (by omega)]
  have h2 : (97 + (((p[p.size - 1]'hlt).toNat : Int) - 97).toNat) = (p[p.size - 1]'hlt).toNat := by omega
  rw [h2, UInt8.ofNat_toNat, ← hx]
  have h3 := List.take_append_getElem hl
  rw [h3]
  exact List.take_of_length_le (by rw [lw_length]; omega)
theorem trieW_at (ws : List ByteArray) {i : Nat} (hi : i < (prefW ws).length) : (trieW ws)[i]'(by rw [trieW_length]; exact hi) = nodeW (prefW ws) ws (rdOf ByteArray.empty (prefW ws) (i : Int)) := by
  rw [rd_nat _ hi]
  simp [trieW]
theorem node_at (ws : List ByteArray) (ho : ∀ w ∈ ws, okWord w) {i : Nat} (h0 : 0 < i) (hi : i < (prefW ws).length) : ∃ j, j < i ∧ rdOf ByteArray.empty (prefW ws) (j : Int) = (rdOf ByteArray.empty (prefW ws) (i : Int)).extract 0 ((rdOf ByteArray.empty (prefW ws) (i : Int)).size - 1) ∧
    (nodeW (prefW ws) ws (rdOf ByteArray.empty (prefW ws) (i : Int))).f1 = (j : Int) ∧ 0 ≤ (nodeW (prefW ws) ws (rdOf ByteArray.empty (prefW ws) (i : Int))).f0 ∧ (nodeW (prefW ws) ws (rdOf ByteArray.empty (prefW ws) (i : Int))).f0 ≤ 25 ∧
    rdOf ByteArray.empty (prefW ws) (j : Int) ++ letterW (nodeW (prefW ws) ws (rdOf ByteArray.empty (prefW ws) (i : Int))).f0 = rdOf ByteArray.empty (prefW ws) (i : Int) := by
  have hz := prefW_nonzero ws h0 hi
  obtain ⟨p, hp⟩ : ∃ p, p = rdOf ByteArray.empty (prefW ws) (i : Int) := ⟨_, rfl⟩
  rw [← hp] at hz ⊢
  obtain ⟨j, hj, e1, e2⟩ := cut_idx hi hp hz
  have hm : p ∈ prefW ws := by rw [hp, rd_nat _ hi]; exact List.getElem_mem hi
  obtain ⟨a1, a2, a3⟩ := cut_last (prefW_ok ho hm).2 hz
  refine ⟨j, hj, e1, ?_, ?_, ?_, ?_⟩
  · unfold nodeW; rw [if_neg hz]; exact congrArg Nat.cast e2
  · unfold nodeW; rw [if_neg hz]; exact a1
  · unfold nodeW; rw [if_neg hz]; exact a2
  · unfold nodeW; rw [if_neg hz, e1]; exact a3
theorem prefsW_trie (ws : List ByteArray) (ho : ∀ w ∈ ws, okWord w) : ∀ (n i : Nat), 0 < i → i + n = (prefW ws).length → prefsW ((prefW ws).take i) ((trieW ws).drop i) = some (prefW ws) := by
  intro n
  induction n with
  | zero =>
    intro i _ h
    rw [List.take_of_length_le (by omega), List.drop_of_length_le (by rw [trieW_length]; omega)]
    rfl
  | succ n ih =>
    intro i h0 h
    have hi : i < (prefW ws).length := by omega
    have hi2 : i < (trieW ws).length := by rw [trieW_length]; exact hi
    rw [List.drop_eq_getElem_cons hi2, trieW_at ws hi]
    obtain ⟨j, hj, _, e1, e2, e3, e4⟩ := node_at ws ho h0 hi
    simp only [prefsW]
    have hl : ((prefW ws).take i).length = i := by rw [List.length_take]; omega
    rw [e1, hl, if_pos ⟨by omega, by omega, e2, e3⟩]
    have hr : rdOf ByteArray.empty ((prefW ws).take i) (j : Int) = rdOf ByteArray.empty (prefW ws) (j : Int) := by
      rw [rd_nat _ (by omega), rd_nat _ (by omega), List.getElem_take]
    rw [hr, e4, ← take_rd _ _ hi]
    exact ih (i + 1) (by omega) (by omega)
theorem prefixesW_trie {ws : List ByteArray} (h : VW ws) : prefixesW (trieW ws) = some (prefW ws) := by
  have h1 := prefW_pos ws
  have h2 := prefW_le ws (fun w hw => (h.ok w hw).1)
  have h3 := h.len
  unfold prefixesW
  rw [if_pos (by rw [trieW_length]; omega)]
  have e : (prefW ws).take 1 = [ByteArray.empty] := by
    rw [take_rd _ 0 h1]
    show [] ++ [rdOf ByteArray.empty (prefW ws) 0] = _
    rw [prefW_zero]; rfl
  have := prefsW_trie ws h.ok ((prefW ws).length - 1) 1 (by omega) (by omega)
  rwa [e] at this
theorem hasW_map (ws : List ByteArray) (ps qs : List ByteArray) : wordsW (qs.map (nodeW ps ws)) qs = qs.filter fun p => hasW ws p := by
  induction qs with
  | nil => rfl
  | cons q qs ih =>
    have e : (nodeW ps ws q).f2 = hasW ws q := by unfold nodeW; split <;> rfl
    simp only [List.map_cons, wordsW, e, ih, List.filter_cons]
theorem mem_prefW_self {ws : List ByteArray} {w : ByteArray} (h : w ∈ ws) : w ∈ prefW ws := by
  by_cases h0 : w.size = 0
  · have : w = ByteArray.empty := lw_inj (List.eq_nil_of_length_eq_zero (by rw [lw_length]; exact h0))
    exact mem_prefW.2 (.inl this)
  · exact mem_prefW.2 (.inr ⟨w, h, w.size - 1, by omega, by rw [show w.size - 1 + 1 = w.size by omega, ext_all]⟩)
theorem filter_ws {ws : List ByteArray} (h : SS ws) : ((prefW ws).filter fun p => hasW ws p) = ws := by
  refine ss_ext ((prefW_ss ws).filter _) h (fun x => ?_)
  rw [List.mem_filter, hasW_iff]
  exact ⟨fun h => h.2, fun h => ⟨mem_prefW_self h, h⟩⟩
theorem wordsW_trie {ws : List ByteArray} (h : SS ws) : wordsW (trieW ws) (prefW ws) = ws := by
  unfold trieW
  rw [hasW_map, filter_ws h]
theorem prefW_set (ws : List ByteArray) : prefW (setW ws) = prefW ws := by
  refine ss_ext (prefW_ss _) (prefW_ss _) (fun x => ?_)
  rw [mem_prefW, mem_prefW]
  refine or_congr Iff.rfl ⟨?_, ?_⟩
  · rintro ⟨w, hw, r⟩; exact ⟨w, mem_setW.1 hw, r⟩
  · rintro ⟨w, hw, r⟩; exact ⟨w, mem_setW.2 hw, r⟩
theorem hasW_set (ws : List ByteArray) (x : ByteArray) : hasW (setW ws) x = hasW ws x := by
  rw [Bool.eq_iff_iff, hasW_iff, hasW_iff, mem_setW]
theorem trieW_set (ws : List ByteArray) : trieW (setW ws) = trieW ws := by
  unfold trieW
  rw [prefW_set]
  refine List.map_congr_left fun p _ => ?_
  unfold nodeW
  simp only [hasW_set]
theorem prefsW_letters : ∀ {l : List IN} {ps r : List ByteArray}, (∀ p ∈ ps, letters p) → prefsW ps l = some r → ∀ p ∈ r, letters p
  | [], ps, r, hp, h => by
    simp only [prefsW] at h
    injection h with h
    subst h; exact hp
  | n :: l, ps, r, hp, h => by
    simp only [prefsW] at h
    split at h
    · rename_i hc
      refine prefsW_letters (fun p hm => ?_) h
      rcases List.mem_append.1 hm with hm | hm
      · exact hp p hm
      · rw [List.mem_singleton.1 hm]
        intro x hx
        rw [lw_app] at hx
        rcases List.mem_append.1 hx with hx | hx
        · exact hp _ (at_mem hc.1 hc.2.1) x hx
        · rw [lw_letterW _ hc.2.2.1 hc.2.2.2] at hx
          rw [List.mem_singleton.1 hx, UInt8.toNat_ofNat_of_lt' (by have := hc.2.2; have hz : UInt8.size = 256 := rfl; omega)]
          have := hc.2.2
          omega
    · cases h
theorem isTrieW_iff (l : List IN) : isTrieW l = true ↔ V l := by
  constructor
  · intro h
    unfold isTrieW at h
    cases hp : prefixesW l with
    | none => rw [hp] at h; cases h
    | some ps =>
      rw [hp] at h
      simp only at h
      split at h
      · cases h
      · rename_i h12
        simp only [Bool.and_eq_true, decide_eq_true_eq] at h
        obtain ⟨h40, _, hl⟩ := h
        refine ⟨setW (wordsW l ps), ⟨setW_ss _, fun w hw => ?_, Nat.le_trans (setW_len _) h40⟩, by rw [trieW_set]; exact hl.symm⟩
        have hm := wordsW_mem (mem_setW.1 hw)
        refine ⟨?_, ?_⟩
        · have h1 : ¬ longW w = true := fun h2 => h12 (List.any_eq_true.2 ⟨w, hm, h2⟩)
          simp [longW] at h1
          omega
        · unfold prefixesW at hp
          split at hp
          · exact prefsW_letters (fun p hp => by rw [List.mem_singleton.1 hp]; exact letters_empty) hp w hm
          · cases hp
  · rintro ⟨ws, h, rfl⟩
    unfold isTrieW
    rw [prefixesW_trie h]
    simp only
    have h1 : ¬ (prefW ws).any longW = true := fun hf => by
      obtain ⟨p, hp, hl⟩ := List.any_eq_true.1 hf
      have := (prefW_ok h.ok hp).1
      simp [longW] at hl
      omega
    rw [if_neg h1, wordsW_trie h.ss]
    simp only [Bool.and_eq_true, decide_eq_true_eq]
    exact ⟨h.len, h.ss.imp (fun h => List.le_of_lt h), trivial⟩
end Go.Proofs.YtcgcicngfemnlaaDoor.Q
namespace Go.Proofs.YtcgcicngfemnlaaDoor.Q
open Go.RowKit Go.Proofs.YtcgcicngfemnlaaDoorW.PrintWords Go.Proofs.YtcgcicngfemnlaaDoorW.PrintLast
theorem l1In_eq (a b c : Int) : spec_l1In.f a b c = some (decide (b ≤ a ∧ a ≤ c)) := by
  unfold spec_l1In.f
  by_cases h : b ≤ a
  · rw [if_pos h]; congr 1; exact decide_eq_decide.2 (by omega)
  · rw [if_neg (by omega)]; congr 1; exact (decide_eq_false (by omega)).symm
theorem bt_nat (a : ByteArray) (i : Nat) (h : i < (lw a).length) : bt a (i : Int) = (((lw a)[i]'h).toNat : Int) := by
  have h2 : i < a.size := by rw [← lw_length]; exact h
  have : ((i : Int)).toNat < a.size := by simpa using h2
  rw [← bt_at a (i : Int) this]
  rfl
theorem lt_drop : ∀ (i : Nat) (x y : Ws), x.take i = y.take i → (x < y ↔ x.drop i < y.drop i)
  | 0, x, y, _ => Iff.rfl
  | i + 1, [], [], _ => Iff.rfl
  | i + 1, [], b :: y, h => by simp at h
  | i + 1, a :: x, [], h => by simp at h
  | i + 1, a :: x, b :: y, h => by
    simp only [List.take_succ_cons, List.cons.injEq] at h
    obtain ⟨rfl, h⟩ := h
    rw [List.cons_lt_cons_self, List.drop_succ_cons, List.drop_succ_cons]
    exact lt_drop i x y h
theorem before_l0 (a b : ByteArray) (ha : a.size ≤ 4294967296) : ∀ (n i : Nat), i + n = a.size → i ≤ b.size → (lw a).take i = (lw b).take i → Ev (fun k => spec_l2Before.l0 k a b (i : Int)) (decide (lw a < lw b)) := by
  intro n
  induction n with
  | zero =>
    intro i h hib he
    refine Ev.succ ?_
    simp only [spec_l2Before.l0]
    refine Ev.neg (by omega) (Ev.succ ?_)
    simp only [spec_l2Before.j1]
    refine Ev.neg (by decide) ?_
    have e : decide ((a.size : Int) < (b.size : Int)) = decide (lw a < lw b) := by
      refine decide_eq_decide.2 ?_
      rw [lt_drop i _ _ he, List.drop_of_length_le (by rw [lw_length]; omega)]
      constructor
      · intro hq
        have hib2 : i < (lw b).length := by rw [lw_length]; omega
        rw [List.drop_eq_getElem_cons hib2]
        exact List.nil_lt_cons _ _
      · intro hq
        have : (lw b).drop i ≠ [] := fun hn => by rw [hn] at hq; exact absurd hq (List.not_lt_nil _)
        have h2 : ¬ (lw b).length ≤ i := fun hn => this (List.drop_of_length_le hn)
        rw [lw_length] at h2
        omega
    rw [e]
    exact Ev.pure _
  | succ n ih =>
    intro i h hib he
    refine Ev.succ ?_
    simp only [spec_l2Before.l0]
    have hia : i < (lw a).length := by rw [lw_length]; omega
    refine Ev.pos (by omega) (Ev.succ ?_)
    simp only [spec_l2Before.j1]
    by_cases hib2 : i < b.size
    · have hbl : i < (lw b).length := by rw [lw_length]; omega
      simp only [bt_nat a i hia, bt_nat b i hbl]
      refine Ev.pos (by simpa using hib2) (Ev.pos (by omega) (Ev.pos (by omega) (Ev.pos (by omega) ?_)))
      by_cases e : (lw a)[i] = (lw b)[i]
      · refine Ev.pos (by rw [e]) ?_
        rw [wnext i (by omega)]
        refine ih (i + 1) (by omega) (by omega) ?_
        rw [List.take_succ_eq_append_getElem hia, List.take_succ_eq_append_getElem hbl, he, e]
      · have hne : ¬ (((lw a)[i]).toNat : Int) = (((lw b)[i]).toNat : Int) := fun hq => e (UInt8.toNat.inj (by omega))
        refine Ev.neg hne ?_
        have e2 : decide ((((lw a)[i]).toNat : Int) < (((lw b)[i]).toNat : Int)) = decide (lw a < lw b) := by
          refine decide_eq_decide.2 ?_
          rw [lt_drop i _ _ he, List.drop_eq_getElem_cons hia, List.drop_eq_getElem_cons hbl, List.cons_lt_cons_iff]
          constructor
          · intro hq; exact .inl (UInt8.lt_iff_toNat_lt.2 (by omega))
          · rintro (hq | hq)
            · have := UInt8.lt_iff_toNat_lt.1 hq; omega
            · exact absurd hq.1 e
        rw [e2]
        exact Ev.pure _
    · refine Ev.neg (by simpa using hib2) ?_
      have e : decide ((a.size : Int) < (b.size : Int)) = decide (lw a < lw b) := by
        refine decide_eq_decide.2 ?_
        rw [lt_drop i _ _ he, List.drop_of_length_le (show (lw b).length ≤ i by rw [lw_length]; omega)]
        exact ⟨fun hq => absurd hq (by omega), fun hq => absurd hq (List.not_lt_nil _)⟩
      rw [e]
      exact Ev.pure _
theorem before_ev (a b : ByteArray) (ha : a.size ≤ 4294967296) : Ev (fun k => spec_l2Before.f k a b) (decide (lw a < lw b)) := by
  unfold spec_l2Before.f
  exact before_l0 a b ha a.size 0 (by omega) (by omega) rfl
theorem same_l0 (a b : List IN) (hl : a.length ≤ 1048576) : ∀ (n i : Nat), i + n = a.length → i ≤ b.length → a.take i = b.take i → Ev (fun k => spec_l2Same.l0 k (i : Int) a b) (decide (a = b)) := by
  intro n
  induction n with
  | zero =>
    intro i h hi he
    refine Ev.succ ?_
    simp only [spec_l2Same.l0]
    refine Ev.neg (by omega) (Ev.succ ?_)
    simp only [spec_l2Same.j1]
    refine Ev.neg (by decide) ?_
    have e : ((a.length : Int) == (b.length : Int)) = decide (a = b) := by
      rw [Bool.eq_iff_iff, beq_iff_eq, decide_eq_true_iff]
      constructor
      · intro hq
        rw [List.take_of_length_le (by omega), List.take_of_length_le (by omega)] at he
        exact he
      · rintro rfl; rfl
    rw [e]
    exact Ev.pure _
  | succ n ih =>
    intro i h hi he
    refine Ev.succ ?_
    simp only [spec_l2Same.l0]
    have hia : i < a.length := by omega
    refine Ev.pos (by omega) (Ev.succ ?_)
    simp only [spec_l2Same.j1]
    by_cases hib : i < b.length
    · refine Ev.pos (by simpa using hib) (Ev.pos (by omega) (Ev.pos (by omega) (Ev.pos (by omega) ?_)))
      simp only [rd_nat' a i hia, rd_nat' b i hib]
      have hne : ∀ x y : IN, (!(x.f0 == y.f0) || (!(x.f1 == y.f1) || !(x.f2 == y.f2))) = !decide (x = y) := fun x y => by
        obtain ⟨x0, x1, x2⟩ := x
        obtain ⟨y0, y1, y2⟩ := y
        by_cases h0 : x0 = y0 <;> by_cases h1 : x1 = y1 <;> by_cases h2 : x2 = y2 <;> simp [h0, h1, h2]
      rw [hne]
      by_cases e : a[i] = b[i]
      · refine Ev.neg (by simp [e]) ?_
        rw [wnext i (by omega)]
        refine ih (i + 1) (by omega) (by omega) ?_
        rw [List.take_succ_eq_append_getElem hia, List.take_succ_eq_append_getElem hib, he, e]
      · refine Ev.pos (by simp [e]) ?_
        rw [decide_eq_false (fun hq => e (by subst hq; rfl))]
        exact Ev.pure _
    · refine Ev.neg (by simpa using hib) ?_
      have e : ((a.length : Int) == (b.length : Int)) = decide (a = b) := by
        rw [Bool.eq_iff_iff, beq_iff_eq, decide_eq_true_iff]
        constructor
        · intro hq; omega
        · rintro rfl; rfl
      rw [e]
      exact Ev.pure _
theorem same_ev (a b : List IN) (hl : a.length ≤ 1048576) : Ev (fun k => spec_l2Same.f k a b) (decide (a = b)) := by
  unfold spec_l2Same.f
  exact same_l0 a b hl a.length 0 (by omega) (by omega) rfl
instance (w : ByteArray) : Decidable (letters w) := inferInstanceAs (Decidable (∀ x ∈ lw w, 97 ≤ x.toNat ∧ x.toNat ≤ 122))
instance (w : ByteArray) : Decidable (okWord w) := inferInstanceAs (Decidable (w.size ≤ 12 ∧ letters w))
theorem word_l0 (a : ByteArray) : ∀ (n i : Nat), i + n = min a.size 13 → (∀ x ∈ (lw a).take i, 97 ≤ x.toNat ∧ x.toNat ≤ 122) → Ev (fun k => spec_l2Word.l0 k a (i : Int)) (decide (okWord a)) := by
  intro n
  induction n with
  | zero =>
    intro i h hx
    refine Ev.succ ?_
    simp only [spec_l2Word.l0]
    have e : decide ((a.size : Int) ≤ 12) = decide (okWord a) := by
      refine decide_eq_decide.2 ⟨fun hs => ⟨by omega, ?_⟩, fun h => by have := h.1; omega⟩
      rw [List.take_of_length_le (by rw [lw_length]; omega)] at hx
      exact hx
    by_cases hs : a.size ≤ 12
    · refine Ev.neg (by omega) (Ev.succ ?_)
      simp only [spec_l2Word.j1]
      refine Ev.neg (by decide) ?_
      rw [e]
      exact Ev.pure _
    · have e1 : i = 13 := by omega
      by_cases h13 : 13 < a.size
      · refine Ev.pos (by omega) (Ev.succ ?_)
        simp only [spec_l2Word.j1]
        refine Ev.neg (by simp; omega) ?_
        rw [e]
        exact Ev.pure _
      · refine Ev.neg (by omega) (Ev.succ ?_)
        simp only [spec_l2Word.j1]
        refine Ev.neg (by decide) ?_
        rw [e]
        exact Ev.pure _
  | succ n ih =>
    intro i h hx
    refine Ev.succ ?_
    simp only [spec_l2Word.l0]
    have hi : i < (lw a).length := by rw [lw_length]; omega
    refine Ev.pos (by omega) (Ev.succ ?_)
    simp only [spec_l2Word.j1, bt_nat a i hi]
    refine Ev.pos (by simp; omega) (Ev.pos (by omega) (Ev.pos (by omega) ?_))
    have hnot : ¬ (97 ≤ ((lw a)[i]).toNat ∧ ((lw a)[i]).toNat ≤ 122) → decide (okWord a) = false := fun hq => decide_eq_false (fun ho => hq (ho.2 _ (List.getElem_mem hi)))
    by_cases h1 : 97 ≤ ((lw a)[i]).toNat
    · refine Ev.neg (by omega) ?_
      by_cases h2 : ((lw a)[i]).toNat ≤ 122
      · refine Ev.neg (by omega) ?_
        rw [wnext i (by omega)]
        refine ih (i + 1) (by omega) (fun x hm => ?_)
        rw [List.take_succ_eq_append_getElem hi] at hm
        rcases List.mem_append.1 hm with hm | hm
        · exact hx x hm
        · rw [List.mem_singleton.1 hm]; exact ⟨h1, h2⟩
      · rw [hnot (by omega)]
        exact Ev.pos (by omega) (Ev.pure _)
    · rw [hnot (by omega)]
      exact Ev.pos (by omega) (Ev.pure _)
theorem word_ev (a : ByteArray) : Ev (fun k => spec_l2Word.f k a) (decide (okWord a)) := by
  unfold spec_l2Word.f
  exact word_l0 a (min a.size 13) 0 (by omega) (fun x hx => by cases hx)
theorem own_eq (l : List ByteArray) (hl : l.length < 8796093022208) : spec_l2Own.f l = some l := by
  unfold spec_l2Own.f
  simp only [Option.bind_some, List.length_nil, Nat.zero_add, List.nil_append]
  rw [if_pos hl]
theorem ins_ss {l : List ByteArray} {w : ByteArray} {i : Nat} (h : SS l) (h1 : ∀ x ∈ l.take i, lw x < lw w) (h2 : ∀ x ∈ l.drop i, lw w < lw x) : (l.take i ++ [w]) ++ l.drop i = setW (w :: l) := by
  have e : l = l.take i ++ l.drop i := (List.take_append_drop i l).symm
  refine ss_ext ?_ (setW_ss _) (fun x => ?_)
  · unfold SS at h ⊢
    rw [e, List.pairwise_append] at h
    rw [List.append_assoc, List.pairwise_append]
    refine ⟨h.1, ?_, fun a ha b hb => ?_⟩
    · rw [List.singleton_append, List.pairwise_cons]
      exact ⟨h2, h.2.1⟩
    · rcases List.mem_append.1 hb with hb | hb
      · rw [List.mem_singleton.1 hb]; exact h1 a ha
      · exact h.2.2 a ha b hb
  · rw [mem_setW, List.mem_cons]
    constructor
    · intro hx
      rcases List.mem_append.1 hx with hx | hx
      · rcases List.mem_append.1 hx with hx | hx
        · exact .inr (List.mem_of_mem_take hx)
        · exact .inl (List.mem_singleton.1 hx)
      · exact .inr (List.mem_of_mem_drop hx)
    · rintro (rfl | hx)
      · simp
      · rw [e] at hx
        rcases List.mem_append.1 hx with hx | hx
        · exact List.mem_append_left _ (List.mem_append_left _ hx)
        · exact List.mem_append_right _ hx
theorem put_l0 (l : List ByteArray) (w : ByteArray) (hl : l.length ≤ 4294967296) (hz : ∀ x ∈ l, x.size ≤ 4294967296) (hs : SS l) : ∀ (n i : Nat), i + n = l.length → (∀ x ∈ l.take i, lw x < lw w) → Ev (fun k => spec_l2Put.l0 k l w (i : Int)) (setW (w :: l)) := by
  intro n
  induction n with
  | zero =>
    intro i h h1
    refine Ev.succ ?_
    simp only [spec_l2Put.l0]
    have e1 : (l.take i).length = i := by rw [List.length_take]; omega
    refine Ev.neg (by omega) (Ev.pos (by omega) (Ev.pos (by omega) (Ev.bindc (own_eq _ (by rw [Int.toNat_natCast, e1]; omega)) ?_)))
    simp only [Option.bind_some, Int.toNat_natCast]
    refine Ev.pos (by simp; omega) (Ev.pos (by simp; omega) ?_)
    rw [ins_ss hs h1 (by rw [List.drop_of_length_le (by omega)]; intro x hx; cases hx)]
    exact Ev.pure _
  | succ n ih =>
    intro i h h1
    refine Ev.succ ?_
    simp only [spec_l2Put.l0]
    have hi : i < l.length := by omega
    have e1 : (l.take i).length = i := by rw [List.length_take]; omega
    refine Ev.pos (by omega) (Ev.pos (by omega) ?_)
    simp only [rd_nat l hi]
    refine Ev.bind (before_ev _ _ (hz _ (List.getElem_mem hi))) ?_
    by_cases hb : lw l[i] < lw w
    · refine Ev.pos (decide_eq_true hb) ?_
      rw [wnext i (by omega)]
      refine ih (i + 1) (by omega) (fun x hx => ?_)
      rw [List.take_succ_eq_append_getElem hi] at hx
      rcases List.mem_append.1 hx with hx | hx
      · exact h1 x hx
      · rw [List.mem_singleton.1 hx]; exact hb
    · refine Ev.neg (fun h2 => hb (of_decide_eq_true h2)) ?_
      by_cases e : l[i] = w
      · refine Ev.pos ((tl_eq _ _).2 e) ?_
        have e2 : setW (w :: l) = l := ss_ext (setW_ss _) hs (fun x => by
          rw [mem_setW, List.mem_cons]
          exact ⟨fun hx => hx.elim (fun hx => by rw [hx, ← e]; exact List.getElem_mem hi) id, .inr⟩)
        rw [e2]
        exact Ev.pure _
      · have hgt : lw w < lw l[i] := by
          refine List.not_le.1 (fun hle => ?_)
          exact e (lw_inj (List.le_antisymm hle (List.not_lt.1 hb)))
        refine Ev.neg (fun h2 => e ((tl_eq _ _).1 h2)) (Ev.pos (by omega) (Ev.bindc (own_eq _ (by rw [Int.toNat_natCast, e1]; omega)) ?_))
        simp only [Option.bind_some, Int.toNat_natCast]
        refine Ev.pos (by simp; omega) (Ev.pos (by simp; omega) ?_)
        rw [ins_ss hs h1 (fun x hx => ?_)]
        · exact Ev.pure _
        · rw [List.drop_eq_getElem_cons hi] at hx
          rcases List.mem_cons.1 hx with rfl | hx
          · exact hgt
          · have := List.pairwise_append.1 ((List.take_append_drop (i + 1) l).symm ▸ hs : SS (l.take (i + 1) ++ l.drop (i + 1)))
            have hm : l[i] ∈ l.take (i + 1) := by
              rw [List.take_succ_eq_append_getElem hi]
              exact List.mem_append_right _ (List.mem_singleton.2 rfl)
            exact List.lt_trans hgt (this.2.2 l[i] hm x hx)
theorem put_ev (l : List ByteArray) (w : ByteArray) (hl : l.length ≤ 4294967296) (hz : ∀ x ∈ l, x.size ≤ 4294967296) (hs : SS l) : Ev (fun k => spec_l2Put.f k l w) (setW (w :: l)) := by
  unfold spec_l2Put.f
  exact put_l0 l w hl hz hs l.length 0 (by omega) (fun x hx => by cases hx)
end Go.Proofs.YtcgcicngfemnlaaDoor.Q
namespace Go.Proofs.YtcgcicngfemnlaaDoor.Q
open Go.RowKit Go.Proofs.YtcgcicngfemnlaaDoorW.PrintWords Go.Proofs.YtcgcicngfemnlaaDoorW.PrintLast
def setRes (l : List ByteArray) : List ByteArray × Bool := if ∀ w ∈ l, okWord w then (setW l, decide (((setW l).length : Int) ≤ 40)) else ([], false)
theorem setW_cons_set (w : ByteArray) (l : List ByteArray) : setW (w :: setW l) = setW (l ++ [w]) := ss_ext (setW_ss _) (setW_ss _) (fun x => by
  rw [mem_setW, mem_setW, List.mem_cons, mem_setW, List.mem_append, List.mem_singleton]
  exact or_comm)
theorem set_l0 (l : List ByteArray) (hl : l.length ≤ 4294967296) : ∀ (n i : Nat), i + n = l.length → (∀ w ∈ l.take i, okWord w) → Ev (fun k => spec_l2Set.l0 k l (setW (l.take i)) (i : Int)) (setRes l) := by
  intro n
  induction n with
  | zero =>
    intro i h ho
    refine Ev.succ ?_
    simp only [spec_l2Set.l0]
    rw [List.take_of_length_le (by omega)] at ho ⊢
    unfold setRes
    rw [if_pos ho]
    exact Ev.neg (by omega) (Ev.pure _)
  | succ n ih =>
    intro i h ho
    refine Ev.succ ?_
    simp only [spec_l2Set.l0]
    have hi : i < l.length := by omega
    refine Ev.pos (by omega) (Ev.pos (by omega) ?_)
    simp only [rd_nat l hi]
    refine Ev.bind (word_ev _) ?_
    by_cases hw : okWord l[i]
    · have h1 := setW_len (l.take i)
      rw [List.length_take] at h1
      refine Ev.pos (decide_eq_true hw) (Ev.bind (put_ev _ _ (by omega) (fun x hx => by have := (ho x (mem_setW.1 hx)).1; omega) (setW_ss _)) ?_)
      rw [wnext i (by omega), setW_cons_set, ← List.take_succ_eq_append_getElem hi]
      refine ih (i + 1) (by omega) (fun w hm => ?_)
      rw [List.take_succ_eq_append_getElem hi] at hm
      rcases List.mem_append.1 hm with hm | hm
      · exact ho w hm
      · rw [List.mem_singleton.1 hm]; exact hw
    · refine Ev.neg (fun h2 => hw (of_decide_eq_true h2)) ?_
      unfold setRes
      rw [if_neg (fun hf => hw (hf _ (List.getElem_mem hi)))]
      exact Ev.pure _
theorem set_ev (l : List ByteArray) (hl : l.length ≤ 4294967296) : Ev (fun k => spec_l2Set.f k l) (setRes l) := by
  unfold spec_l2Set.f
  have e : setW (l.take 0) = [] := List.eq_nil_of_length_eq_zero (Nat.le_zero.1 (setW_len _))
  have := set_l0 l hl l.length 0 (by omega) (fun w hw => by cases hw)
  rw [e] at this
  exact this
theorem has_l0 (l : List ByteArray) (x : ByteArray) (hl : l.length ≤ 4294967296) : ∀ (n i : Nat), i + n = l.length → (∀ y ∈ l.take i, y ≠ x) → Ev (fun k => spec_l2Has.l0 k l x (i : Int)) (hasW l x) := by
  intro n
  induction n with
  | zero =>
    intro i h ho
    refine Ev.succ ?_
    simp only [spec_l2Has.l0]
    rw [List.take_of_length_le (by omega)] at ho
    have e : hasW l x = false := by
      rw [Bool.eq_false_iff]
      intro hf
      exact ho x ((hasW_iff l x).1 hf) rfl
    rw [e]
    exact Ev.neg (by omega) (Ev.pure _)
  | succ n ih =>
    intro i h ho
    refine Ev.succ ?_
    simp only [spec_l2Has.l0]
    have hi : i < l.length := by omega
    refine Ev.pos (by omega) (Ev.pos (by omega) ?_)
    simp only [rd_nat l hi]
    by_cases e : l[i] = x
    · have e2 : hasW l x = true := (hasW_iff l x).2 (e ▸ List.getElem_mem hi)
      rw [e2]
      exact Ev.pos ((tl_eq _ _).2 e) (Ev.pure _)
    · refine Ev.neg (fun h2 => e ((tl_eq _ _).1 h2)) ?_
      rw [wnext i (by omega)]
      refine ih (i + 1) (by omega) (fun y hm => ?_)
      rw [List.take_succ_eq_append_getElem hi] at hm
      rcases List.mem_append.1 hm with hm | hm
      · exact ho y hm
      · rw [List.mem_singleton.1 hm]; exact e
theorem has_ev (l : List ByteArray) (x : ByteArray) (hl : l.length ≤ 4294967296) : Ev (fun k => spec_l2Has.f k l x) (hasW l x) := by
  unfold spec_l2Has.f
  exact has_l0 l x hl l.length 0 (by omega) (fun w hw => by cases hw)
def placeW (l : List ByteArray) (x : ByteArray) : Int := if hasW l x = true then (l.findIdx (fun y => decide (y = x)) : Int) else -1
theorem place_l0 (l : List ByteArray) (x : ByteArray) (hl : l.length ≤ 4294967296) : ∀ (n i : Nat), i + n = l.length → (∀ y ∈ l.take i, y ≠ x) → Ev (fun k => spec_l2Place.l0 k l x (i : Int)) (placeW l x) := by
  intro n
  induction n with
  | zero =>
    intro i h ho
    refine Ev.succ ?_
    simp only [spec_l2Place.l0]
    rw [List.take_of_length_le (by omega)] at ho
    unfold placeW
    rw [if_neg (fun hf => ho x ((hasW_iff l x).1 hf) rfl)]
    exact Ev.neg (by omega) (Ev.pure _)
  | succ n ih =>
    intro i h ho
    refine Ev.succ ?_
    simp only [spec_l2Place.l0]
    have hi : i < l.length := by omega
    refine Ev.pos (by omega) (Ev.pos (by omega) ?_)
    simp only [rd_nat l hi]
    by_cases e : l[i] = x
    · have e3 : l.findIdx (fun y => decide (y = x)) = i := by
        refine (List.findIdx_eq hi).2 ⟨by simp [e], fun j hj => ?_⟩
        have : l[j] ∈ l.take i := List.mem_take_iff_getElem.2 ⟨j, by omega, rfl⟩
        exact decide_eq_false (ho _ this)
      unfold placeW
      rw [if_pos ((hasW_iff l x).2 (e ▸ List.getElem_mem hi)), e3]
      exact Ev.pos ((tl_eq _ _).2 e) (Ev.pure _)
    · refine Ev.neg (fun h2 => e ((tl_eq _ _).1 h2)) ?_
      rw [wnext i (by omega)]
      refine ih (i + 1) (by omega) (fun y hm => ?_)
      rw [List.take_succ_eq_append_getElem hi] at hm
      rcases List.mem_append.1 hm with hm | hm
      · exact ho y hm
      · rw [List.mem_singleton.1 hm]; exact e
theorem place_ev (l : List ByteArray) (x : ByteArray) (hl : l.length ≤ 4294967296) : Ev (fun k => spec_l2Place.f k l x) (placeW l x) := by
  unfold spec_l2Place.f
  exact place_l0 l x hl l.length 0 (by omega) (fun w hw => by cases hw)
theorem of_l2 (ws : List ByteArray) (ho : ∀ w ∈ ws, okWord w) (hl : ws.length ≤ 1000000) : ∀ (n i : Nat), i + n = (prefW ws).length → Ev (fun k => spec_l2Of.l2 k ws (prefW ws) (i : Int) ((trieW ws).take i)) (trieW ws) := by
  have hle := prefW_le ws (fun w hw => (ho w hw).1)
  intro n
  induction n with
  | zero =>
    intro i h
    refine Ev.succ ?_
    simp only [spec_l2Of.l2]
    rw [List.take_of_length_le (by rw [trieW_length]; omega)]
    exact Ev.neg (by omega) (Ev.pure _)
  | succ n ih =>
    intro i h
    refine Ev.succ ?_
    simp only [spec_l2Of.l2]
    have hi : i < (prefW ws).length := by omega
    have hi2 : i < (trieW ws).length := by rw [trieW_length]; exact hi
    have hlt : ((trieW ws).take i).length = i := by rw [List.length_take]; omega
    refine Ev.pos (by omega) (Ev.pos (by omega) (Ev.bind (has_ev ws _ (by omega)) ?_))
    have hq := ih (i + 1) (by omega)
    rw [List.take_succ_eq_append_getElem hi2, trieW_at ws hi] at hq
    obtain ⟨p, hp⟩ : ∃ p, p = rdOf ByteArray.empty (prefW ws) (i : Int) := ⟨_, rfl⟩
    rw [← hp] at hq ⊢
    have hm : p ∈ prefW ws := by rw [hp, rd_nat _ hi]; exact List.getElem_mem hi
    have hsz := (prefW_ok ho hm).1
    by_cases h0 : 0 < i
    · have hz := prefW_nonzero ws h0 hi
      rw [← hp] at hz
      have e1 : wrap64 ((p.size : Int) - 1) = ((p.size - 1 : Nat) : Int) := by unfold wrap64; omega
      rw [e1]
      refine Ev.pos (by omega) (Ev.pos (by omega) (Ev.pos (by omega) (Ev.pos (by omega) (Ev.bind (place_ev _ _ (by omega)) (Ev.pos (by omega) ?_)))))
      rw [wnext i (by omega)]
      have e2 : (⟨(bt p ((p.size - 1 : Nat) : Int) - 97) % 256, placeW (prefW ws) (p.extract 0 (((p.size - 1 : Nat) : Int)).toNat), hasW ws p⟩ : IN) = nodeW (prefW ws) ws p := by
        unfold nodeW placeW
        rw [if_neg hz, Int.toNat_natCast, if_pos ((hasW_iff _ _).2 (prefW_closed hm))]
        have e3 : ((p.size - 1 : Nat) : Int) = (p.size : Int) - 1 := by omega
        rw [e3]
        congr 1
        omega
      rw [e2]
      exact hq
    · have hi0 : i = 0 := by omega
      have hz : p.size = 0 := by
        rw [hp, hi0]
        have := prefW_zero ws
        rw [show ((0 : Nat) : Int) = 0 from rfl, this]; rfl
      rw [node_root hz] at hq
      refine Ev.neg (by omega) (Ev.pos (by omega) ?_)
      rw [wnext i (by omega)]
      exact hq
theorem pfx_le (w : ByteArray) (n : Nat) (x : ByteArray) (h : x ∈ pfx w n) : x.size ≤ w.size := by
  obtain ⟨j, _, rfl⟩ := List.mem_map.1 h
  rw [ByteArray.size_extract]; omega
theorem allPfx_size {ws : List ByteArray} (ho : ∀ w ∈ ws, okWord w) {x : ByteArray} (h : x ∈ allPfx ws) : x.size ≤ 12 := by
  unfold allPfx at h
  rcases List.mem_cons.1 h with rfl | h
  · exact Nat.zero_le _
  · obtain ⟨w, hw, hx⟩ := List.mem_flatMap.1 h
    exact Nat.le_trans (pfx_le w _ x hx) (ho w hw).1
theorem of_l0 (ws : List ByteArray) (ho : ∀ w ∈ ws, okWord w) (hl : ws.length ≤ 1000000) : ∀ (n i : Nat), i + n = ws.length → Ev (fun k => spec_l2Of.l0 k ws (setW (allPfx (ws.take i))) (i : Int)) (trieW ws) := by
  intro n
  induction n with
  | zero =>
    intro i h
    refine Ev.succ ?_
    simp only [spec_l2Of.l0]
    rw [List.take_of_length_le (by omega)]
    refine Ev.neg (by omega) ?_
    have := of_l2 ws ho hl (prefW ws).length 0 (by omega)
    exact this
  | succ n ih =>
    intro i h
    have hi : i < ws.length := by omega
    have hok := ho _ (List.getElem_mem hi)
    refine Ev.succ ?_
    simp only [spec_l2Of.l0]
    refine Ev.pos (by omega) ?_
    have hot : ∀ w ∈ ws.take i, okWord w := fun w hw => ho w (List.mem_of_mem_take hw)
    have hal := allPfx_len (ws.take i) (fun w hw => (hot w hw).1)
    rw [List.length_take] at hal
    have key : ∀ (m j : Nat), j + m = ws[i].size → Ev (fun k => spec_l2Of.l1 k ws (setW (allPfx (ws.take i) ++ pfx ws[i] j)) (i : Int) ((j : Int) + 1)) (trieW ws) := by
      intro m
      induction m with
      | zero =>
        intro j hj
        refine Ev.succ ?_
        simp only [spec_l2Of.l1, rd_nat ws hi]
        refine Ev.pos (by omega) (Ev.pos (by omega) (Ev.neg (by omega) ?_))
        rw [wnext i (by omega)]
        have hq := ih (i + 1) (by omega)
        rw [allPfx_take ws i hi, rd_nat ws hi] at hq
        have : j = ws[i].size := by omega
        rw [this]
        exact hq
      | succ m ihm =>
        intro j hj
        refine Ev.succ ?_
        simp only [spec_l2Of.l1, rd_nat ws hi]
        have h12 := hok.1
        have hln := setW_len (allPfx (ws.take i) ++ pfx ws[i] j)
        rw [List.length_append, pfx_length] at hln
        refine Ev.pos (by omega) (Ev.pos (by omega) (Ev.pos (by omega) (Ev.pos (by omega) (Ev.bind (put_ev _ _ (by omega) (fun x hx => ?_) (setW_ss _)) ?_))))
        · rcases List.mem_append.1 (mem_setW.1 hx) with hx | hx
          · have := allPfx_size hot hx; omega
          · have := pfx_le _ _ _ hx; omega
        · have e1 : wrap64 ((j : Int) + 1 + 1) = ((j + 1 : Nat) : Int) + 1 := by unfold wrap64; omega
          have e2 : ((j : Int) + 1).toNat = j + 1 := by omega
          rw [e1, e2, setW_cons_set, List.append_assoc, ← pfx_succ]
          exact ihm (j + 1) (by omega)
    have := key ws[i].size 0 (by omega)
    have e : pfx ws[i] 0 = [] := rfl
    rw [e, List.append_nil] at this
    exact this
theorem of_ev (ws : List ByteArray) (ho : ∀ w ∈ ws, okWord w) (hl : ws.length ≤ 1000000) : Ev (fun k => spec_l2Of.f k ws) (trieW ws) := by
  unfold spec_l2Of.f
  have := of_l0 ws ho hl ws.length 0 (by omega)
  have e : setW (allPfx (ws.take 0)) = [⟨#[]⟩] := ss_ext (setW_ss _) (List.pairwise_singleton _ _) (fun x => by rw [mem_setW]; exact Iff.rfl)
  rw [e] at this
  exact this
end Go.Proofs.YtcgcicngfemnlaaDoor.Q
namespace Go.Proofs.YtcgcicngfemnlaaDoor.Q
open Go.RowKit Go.Proofs.YtcgcicngfemnlaaDoorW.PrintWords Go.Proofs.YtcgcicngfemnlaaDoorW.PrintLast
def qm : ByteArray := ⟨#[63]⟩
def prefX : Nat → List IN → Int → ByteArray → ByteArray
  | 0, _, node, s => if node = 0 then s else qm
  | n + 1, l, node, s =>
    if node > 0 then
      (if 0 ≤ (rd_T51 l node).f0 ∧ (rd_T51 l node).f0 ≤ 25 then
        (if (rd_T51 l node).f1 ≥ node then qm else prefX n l (rd_T51 l node).f1 (letterW (rd_T51 l node).f0 ++ s)) else qm)
    else if node = 0 then s else qm
theorem prefix_l0 (l : List IN) : ∀ (n : Nat) (node : Int) (s : ByteArray), node < l.length → s.size + n = 13 → Ev (fun k => spec_l2Prefix.l0 k node s l) (prefX n l node s) := by
  intro n
  induction n with
  | zero =>
    intro node s hn hs
    refine Ev.succ ?_
    simp only [spec_l2Prefix.l0, prefX]
    have key : Ev (fun k => spec_l2Prefix.j1 k node s false l) (if node = 0 then s else qm) := by
      refine Ev.succ ?_
      simp only [spec_l2Prefix.j1]
      refine Ev.neg (by decide) ?_
      by_cases h0 : node = 0
      · rw [if_pos h0, if_pos h0]; exact Ev.pure _
      · rw [if_neg h0, if_neg h0]; exact Ev.pure _
    have e : decide ((s.size : Int) ≤ 12) = false := decide_eq_false (by omega)
    rw [e]
    by_cases h : node > 0
    · exact Ev.pos h key
    · exact Ev.neg h key
  | succ n ih =>
    intro node s hn hs
    refine Ev.succ ?_
    simp only [spec_l2Prefix.l0, prefX]
    by_cases h : node > 0
    · rw [if_pos h]
      refine Ev.pos h (Ev.succ ?_)
      simp only [spec_l2Prefix.j1, l1In_eq, Option.bind_some]
      refine Ev.pos (decide_eq_true (by omega)) (Ev.pos (by omega) (Ev.pos hn ?_))
      by_cases h2 : 0 ≤ (rd_T51 l node).f0 ∧ (rd_T51 l node).f0 ≤ 25
      · rw [if_pos h2]
        refine Ev.pos (decide_eq_true h2) ?_
        by_cases h3 : (rd_T51 l node).f1 ≥ node
        · rw [if_pos h3]; exact Ev.pos h3 (Ev.pure _)
        · rw [if_neg h3]
          have hls := letterW_size (rd_T51 l node).f0
          unfold letterW at hls
          refine Ev.neg h3 (Ev.pos (by rw [hls]; omega) ?_)
          refine ih _ _ (by omega) ?_
          rw [size_app, hls]
          omega
      · rw [if_neg h2]
        exact Ev.neg (fun hf => h2 (of_decide_eq_true hf)) (Ev.pure _)
    · rw [if_neg h]
      refine Ev.neg h (Ev.succ ?_)
      simp only [spec_l2Prefix.j1]
      refine Ev.neg (by decide) ?_
      by_cases h0 : node = 0
      · rw [if_pos h0, if_pos h0]; exact Ev.pure _
      · rw [if_neg h0, if_neg h0]; exact Ev.pure _
theorem prefix_ev (l : List IN) (node : Int) (h : node < l.length) : Ev (fun k => spec_l2Prefix.f k l node) (prefX 13 l node ByteArray.empty) := by
  unfold spec_l2Prefix.f
  exact prefix_l0 l 13 node ByteArray.empty h rfl
def wordsX (l : List IN) : List Nat → List ByteArray
  | [] => []
  | i :: r => if (rd_T51 l (i : Int)).f2 = true then prefX 13 l (i : Int) ByteArray.empty :: wordsX l r else wordsX l r
theorem words_l0X (l : List IN) (hl : l.length ≤ 1048576) : ∀ (n i : Nat) (acc : List ByteArray), i + n = l.length → acc.length ≤ i → Ev (fun k => spec_l2Words.l0 k acc (i : Int) l) (acc ++ wordsX l (List.range' i n)) := by
  intro n
  induction n with
  | zero =>
    intro i acc h ha
    refine Ev.succ ?_
    simp only [spec_l2Words.l0, List.range'_zero, wordsX, List.append_nil]
    exact Ev.neg (by omega) (Ev.pure _)
  | succ n ih =>
    intro i acc h ha
    refine Ev.succ ?_
    simp only [spec_l2Words.l0, List.range'_succ, wordsX]
    refine Ev.pos (by omega) (Ev.pos (by omega) ?_)
    rw [wnext i (by omega)]
    by_cases e : (rd_T51 l (i : Int)).f2 = true
    · rw [if_pos e]
      refine Ev.pos e (Ev.bind (prefix_ev l (i : Int) (by omega)) (Ev.pos (by omega) ?_))
      have := ih (i + 1) (acc ++ [prefX 13 l (i : Int) ByteArray.empty]) (by omega) (by simp; omega)
      simpa using this
    · rw [if_neg e]
      exact Ev.neg e (ih (i + 1) acc (by omega) (by omega))
def wordsS (l : List IN) : List ByteArray := wordsX l (List.range' 0 l.length)
theorem wordsS_ev (l : List IN) (hl : l.length ≤ 1048576) : Ev (fun k => spec_l2Words.f k l) (wordsS l) := by
  unfold spec_l2Words.f
  have := words_l0X l hl l.length 0 [] (by omega) (Nat.le_refl _)
  simpa [wordsS] using this
theorem wordsX_length (l : List IN) : ∀ r, (wordsX l r).length ≤ r.length
  | [] => Nat.le_refl _
  | i :: r => by
    have := wordsX_length l r
    simp only [wordsX]
    split <;> simp <;> omega
theorem prefX_trie (ws : List ByteArray) (ho : ∀ w ∈ ws, okWord w) : ∀ (n i : Nat) (s : ByteArray), i < (prefW ws).length → (rdOf ByteArray.empty (prefW ws) (i : Int)).size < n → prefX n (trieW ws) (i : Int) s = rdOf ByteArray.empty (prefW ws) (i : Int) ++ s := by
  intro n
  induction n with
  | zero => intro i s _ h; exact absurd h (Nat.not_lt_zero _)
  | succ n ih =>
    intro i s hi hs
    simp only [prefX]
    by_cases h0 : 0 < i
    · have hi2 : i < (trieW ws).length := by rw [trieW_length]; exact hi
      rw [if_pos (by omega), rd_nat' _ i hi2, trieW_at ws hi]
      obtain ⟨j, hj, e0, e1, e2, e3, e4⟩ := node_at ws ho h0 hi
      rw [if_pos ⟨e2, e3⟩, e1, if_neg (by omega), ih j _ (by omega) ?_]
      · apply lw_inj
        rw [lw_app, lw_app, ← List.append_assoc, ← lw_app, e4, lw_app]
      · rw [e0, ByteArray.size_extract]
        have := prefW_nonzero ws h0 hi
        omega
    · obtain rfl : i = 0 := by omega
      rw [if_neg (by omega), if_pos (by omega)]
      have := prefW_zero ws
      rw [show ((0 : Nat) : Int) = 0 from rfl, this]
      apply lw_inj
      rw [lw_app]; rfl
theorem app_empty (a : ByteArray) : a ++ ByteArray.empty = a := lw_inj (by rw [lw_app]; exact List.append_nil _)
theorem prefX_trie13 {ws : List ByteArray} (ho : ∀ w ∈ ws, okWord w) {i : Nat} (hi : i < (prefW ws).length) : prefX 13 (trieW ws) (i : Int) ByteArray.empty = rdOf ByteArray.empty (prefW ws) (i : Int) := by
  have hm : rdOf ByteArray.empty (prefW ws) (i : Int) ∈ prefW ws := by rw [rd_nat _ hi]; exact List.getElem_mem hi
  have := (prefW_ok ho hm).1
  rw [prefX_trie ws ho 13 i _ hi (by omega), app_empty]
theorem wordsX_trie {ws : List ByteArray} (ho : ∀ w ∈ ws, okWord w) : ∀ (n i : Nat), i + n = (prefW ws).length → wordsX (trieW ws) (List.range' i n) = ((prefW ws).drop i).filter fun p => hasW ws p := by
  intro n
  induction n with
  | zero =>
    intro i h
    rw [List.drop_of_length_le (by omega)]
    rfl
  | succ n ih =>
    intro i h
    have hi : i < (prefW ws).length := by omega
    have hi2 : i < (trieW ws).length := by rw [trieW_length]; exact hi
    rw [List.range'_succ, List.drop_eq_getElem_cons hi, List.filter_cons]
    simp only [wordsX]
    rw [rd_nat' _ i hi2, trieW_at ws hi, prefX_trie13 ho hi, ih (i + 1) (by omega), rd_nat _ hi]
    have e : (nodeW (prefW ws) ws (prefW ws)[i]).f2 = hasW ws (prefW ws)[i] := by unfold nodeW; split <;> rfl
    rw [e]
theorem wordsS_trie {ws : List ByteArray} (h : VW ws) : wordsS (trieW ws) = ws := by
  unfold wordsS
  rw [trieW_length, wordsX_trie h.ok _ 0 (by omega), List.drop_zero, filter_ws h.ss]
def isTrieS (l : List IN) : Bool := decide (1 ≤ l.length ∧ l.length ≤ 481) && ((setRes (wordsS l)).2 && decide (trieW (setRes (wordsS l)).1 = l))
theorem trieS_ev (l : List IN) : Ev (fun k => spec_l2Trie.f k l) (isTrieS l) := by
  unfold spec_l2Trie.f isTrieS
  simp only [l1In_eq, Option.bind_some]
  by_cases h : 1 ≤ l.length ∧ l.length ≤ 481
  · rw [decide_eq_true h, Bool.true_and]
    have hwl := wordsX_length l (List.range' 0 l.length)
    rw [List.length_range'] at hwl
    refine Ev.pos (decide_eq_true (by omega)) (Ev.bind (wordsS_ev l (by omega)) (Ev.bind (set_ev _ (by unfold wordsS; omega)) ?_))
    by_cases h2 : (setRes (wordsS l)).2 = true
    · rw [h2, Bool.true_and]
      refine Ev.pos rfl ?_
      have hok : ∀ w ∈ wordsS l, okWord w := by
        unfold setRes at h2
        split at h2
        · assumption
        · cases h2
      have e1 : (setRes (wordsS l)).1 = setW (wordsS l) := by unfold setRes; rw [if_pos hok]
      rw [e1]
      have hok2 : ∀ w ∈ setW (wordsS l), okWord w := fun w hw => hok w (mem_setW.1 hw)
      have hl2 := setW_len (wordsS l)
      have hl3 : (wordsS l).length ≤ l.length := hwl
      have hle := prefW_le (setW (wordsS l)) (fun w hw => (hok2 w hw).1)
      exact Ev.bind (of_ev _ hok2 (by omega)) (Ev.bind (same_ev _ _ (by rw [trieW_length]; omega)) (Ev.pure _))
    · rw [Bool.not_eq_true] at h2
      rw [h2, Bool.false_and]
      exact Ev.neg (by decide) (Ev.pure _)
  · rw [decide_eq_false h, Bool.false_and]
    exact Ev.neg (fun hf => h (by have := of_decide_eq_true hf; omega)) (Ev.pure _)
theorem isTrieS_iff (l : List IN) : isTrieS l = true ↔ V l := by
  constructor
  · intro h
    unfold isTrieS at h
    simp only [Bool.and_eq_true, decide_eq_true_eq] at h
    obtain ⟨_, h2, h3⟩ := h
    unfold setRes at h2 h3
    split at h2
    · rename_i hok
      rw [if_pos hok] at h3
      simp only [decide_eq_true_eq] at h2
      exact ⟨_, ⟨setW_ss _, fun w hw => hok w (mem_setW.1 hw), by omega⟩, h3.symm⟩
    · cases h2
  · rintro ⟨ws, h, rfl⟩
    unfold isTrieS
    have h1 := prefW_pos ws
    have h2 := prefW_le ws (fun w hw => (h.ok w hw).1)
    have h3 := h.len
    have e : setRes (wordsS (trieW ws)) = (ws, true) := by
      rw [wordsS_trie h]
      unfold setRes
      rw [if_pos h.ok, setW_of_ss h.ss, decide_eq_true (by omega)]
    rw [e, trieW_length]
    simp
    omega
theorem trie_same (l : List IN) : isTrieS l = isTrieW l := by rw [Bool.eq_iff_iff, isTrieS_iff, isTrieW_iff]
end Go.Proofs.YtcgcicngfemnlaaDoor.Q
namespace Go.Proofs.YtcgcicngfemnlaaDoor.Q
open Go.RowKit Go.Proofs.YtcgcicngfemnlaaDoorW.PrintWords Go.Proofs.YtcgcicngfemnlaaDoorW.PrintLast
theorem trie_cases (l : List IN) : isTrieW l = false ∨ ∃ ws, VW ws ∧ l = trieW ws ∧ isTrieW l = true := by
  cases h : isTrieW l with
  | false => exact .inl rfl
  | true => obtain ⟨ws, hv, e⟩ := (isTrieW_iff l).1 h; exact .inr ⟨ws, hv, e, rfl⟩
theorem specT (l : List IN) {b : Bool} (h : isTrieW l = b) : Ev (fun k => spec_l2Trie.f k l) b := by rw [← h, ← trie_same]; exact trieS_ev l
theorem implT (l : List IN) {b : Bool} (h : isTrieW l = b) : Ev (fun k => impl_isTrie.f k l) b := h ▸ isTrie_ev l
theorem trie_le {ws : List ByteArray} (h : VW ws) : (trieW ws).length ≤ 481 := by
  have h2 := prefW_le ws (fun w hw => (h.ok w hw).1)
  have h3 := h.len
  rw [trieW_length]
  omega
theorem specWords {ws : List ByteArray} (h : VW ws) : Ev (fun k => spec_l2Words.f k (trieW ws)) ws := by
  have := wordsS_ev (trieW ws) (by have := trie_le h; omega)
  rwa [wordsS_trie h] at this
theorem implWords {ws : List ByteArray} (h : VW ws) : Ev (fun k => impl_Trie_words.f k (trieW ws)) ws := by
  have := words_ev (trieW ws) _ (prefixesW_trie h)
  rwa [wordsW_trie h.ss] at this
end Go.Proofs.YtcgcicngfemnlaaDoor.Q
namespace Go.Proofs.YtcgcicngfemnlaaDoor.Q
open Go.RowKit Go.Proofs.YtcgcicngfemnlaaDoorW.PrintWords Go.Proofs.YtcgcicngfemnlaaDoorW.PrintLast
def lwD (b : ByteArray) : List UInt8 := b.data.toList
def lettersD (w : ByteArray) : Prop := ∀ x ∈ lwD w, 97 ≤ x.toNat ∧ x.toNat ≤ 122
def okWordD (w : ByteArray) : Prop := w.size ≤ 12 ∧ lettersD w
instance (w : ByteArray) : Decidable (lettersD w) := inferInstanceAs (Decidable (∀ x ∈ lwD w, 97 ≤ x.toNat ∧ x.toNat ≤ 122))
instance (w : ByteArray) : Decidable (okWordD w) := inferInstanceAs (Decidable (w.size ≤ 12 ∧ lettersD w))
theorem lettersB_D (w : ByteArray) : lettersB w = decide (lettersD w) := by
  rw [Bool.eq_iff_iff, decide_eq_true_eq]
  unfold lettersB lettersD lwD
  rw [List.all_eq_true]
  exact forall_congr' fun x => imp_congr Iff.rfl decide_eq_true_iff
theorem isWordD (w : ByteArray) (h : w.size ≤ 9223372036854775807) : impl_isWord.f w = some (decide (okWordD w)) := by
  unfold impl_isWord.f impl_areLetters.f
  by_cases h12 : w.size ≤ 12
  · rw [if_pos (by omega), if_pos h, Option.bind_some, lettersB_D]
    exact congrArg some (decide_eq_decide.2 ⟨fun a => ⟨h12, a⟩, fun a => a.2⟩)
  · rw [if_neg (by omega)]
    exact congrArg some (decide_eq_false (fun a => h12 a.1)).symm
end Go.Proofs.YtcgcicngfemnlaaDoor.Q
namespace Go.Proofs.YtcgcicngfemnlaaDoor.Q
open Go.RowKit Go.Proofs.YtcgcicngfemnlaaDoorW.PrintWords Go.Proofs.YtcgcicngfemnlaaDoorW.PrintLast
theorem okWord_D (w : ByteArray) : decide (okWordD w) = decide (okWord w) := decide_eq_decide.2 Iff.rfl
end Go.Proofs.YtcgcicngfemnlaaDoor.Q
namespace Go.Proofs.YtcgcicngfemnlaaDoor.Q
open Go.RowKit Go.Proofs.YtcgcicngfemnlaaDoorW.PrintWords Go.Proofs.YtcgcicngfemnlaaDoorW.PrintLast
theorem isWordO (w : ByteArray) : impl_isWord.f w = some (decide (okWord w)) := by
  rw [← okWord_D]
  by_cases h : w.size ≤ 9223372036854775807
  · exact isWordD w h
  · unfold impl_isWord.f
    rw [if_neg (by omega)]
    exact congrArg some (decide_eq_false (fun a => by have := a.1; omega)).symm
theorem kept_ev (l : List IN) (w : ByteArray) : Ev (fun k => impl_areKept.f k l w) (isTrieW l && decide (okWord w)) := by
  unfold impl_areKept.f
  cases h : isTrieW l with
  | false => exact Ev.bind (implT l h) (Ev.neg (by decide) (Ev.pure _))
  | true => exact Ev.bind (implT l h) (Ev.pos rfl (Ev.bindc (isWordO w) (Ev.pure _)))
theorem kept_cases (l : List IN) (w : ByteArray) : (isTrieW l = false ∧ Ev (fun k => impl_areKept.f k l w) false) ∨ (isTrieW l = true ∧ ¬ okWord w ∧ Ev (fun k => impl_areKept.f k l w) false) ∨
    ∃ ws, VW ws ∧ l = trieW ws ∧ isTrieW l = true ∧ okWord w ∧ Ev (fun k => impl_areKept.f k l w) true := by
  have h := kept_ev l w
  rcases trie_cases l with hf | ⟨ws, hv, rfl, ht⟩
  · rw [hf] at h; exact .inl ⟨hf, h⟩
  · by_cases hw : okWord w
    · rw [ht, decide_eq_true hw] at h; exact .inr (.inr ⟨ws, hv, rfl, ht, hw, h⟩)
    · rw [ht, decide_eq_false hw] at h; exact .inr (.inl ⟨ht, hw, h⟩)
theorem specW_t {w : ByteArray} (h : okWord w) : Ev (fun k => spec_l2Word.f k w) true := by have := word_ev w; rwa [decide_eq_true h] at this
theorem specW_f {w : ByteArray} (h : ¬ okWord w) : Ev (fun k => spec_l2Word.f k w) false := by have := word_ev w; rwa [decide_eq_false h] at this
end Go.Proofs.YtcgcicngfemnlaaDoor.Q
namespace Go.Proofs.YtcgcicngfemnlaaDoor.Q
open Go.RowKit Go.Proofs.YtcgcicngfemnlaaDoorW.PrintWords Go.Proofs.YtcgcicngfemnlaaDoorW.PrintLast
theorem begins_eq3 (a b : ByteArray) : spec_l2Begins.f a b = some (begW a b) := by
  unfold spec_l2Begins.f begW
  by_cases h : b.size ≤ a.size
  · rw [if_pos (by omega), if_pos (by omega), if_pos (by omega), decide_eq_true h, Bool.true_and, Int.toNat_natCast]
    exact congrArg some (by rw [Bool.eq_iff_iff, beq_iff_eq, decide_eq_true_eq])
  · rw [if_neg (by omega), decide_eq_false h, Bool.false_and]
theorem under3_l0 (ws : List ByteArray) (p : ByteArray) (hl : ws.length ≤ 1000000) : ∀ (n i : Nat) (acc : List ByteArray), i + n = ws.length → acc.length ≤ i → Ev (fun k => spec_l3Under.l0 k ws p acc (i : Int)) (acc ++ (ws.drop i).filter fun w => begW w p) := by
  intro n
  induction n with
  | zero =>
    intro i acc h ha
    refine Ev.succ ?_
    simp only [spec_l3Under.l0]
    rw [List.drop_of_length_le (by omega), List.filter_nil, List.append_nil]
    exact Ev.neg (by omega) (Ev.pure _)
  | succ n ih =>
    intro i acc h ha
    refine Ev.succ ?_
    simp only [spec_l3Under.l0]
    have hi : i < ws.length := by omega
    rw [List.drop_eq_getElem_cons hi, rd_nat ws hi, wnext i (by omega), List.filter_cons]
    refine Ev.pos (by omega) (Ev.pos (by omega) (Ev.bindc (begins_eq3 _ _) ?_))
    by_cases e : begW ws[i] p = true
    · rw [if_pos e]
      have := ih (i + 1) (acc ++ [ws[i]]) (by omega) (by simp; omega)
      rw [List.append_assoc] at this
      exact Ev.pos e (Ev.pos (by omega) this)
    · rw [if_neg e]
      exact Ev.neg e (ih (i + 1) acc (by omega) (by omega))
theorem under3_ev (ws : List ByteArray) (p : ByteArray) (hl : ws.length ≤ 1000000) : Ev (fun k => spec_l3Under.f k ws p) (ws.filter fun w => begW w p) := by
  unfold spec_l3Under.f
  exact under3_l0 ws p hl ws.length 0 [] (by omega) (Nat.le_refl _)
theorem begW_iff (w p : ByteArray) : begW w p = true ↔ p.size ≤ w.size ∧ (lw w).take p.size = lw p := by
  unfold begW
  rw [Bool.and_eq_true, decide_eq_true_eq, decide_eq_true_eq]
  refine and_congr Iff.rfl ⟨fun h => ?_, fun h => ?_⟩
  · rw [← lw_extract]
    have h2 : ∀ a b : ByteArray, a.toList = b.toList → a = b := fun a b e => by
      rw [Lib.toList_data, Lib.toList_data] at e
      exact lw_inj e
    rw [h2 _ _ h]
  · rw [← lw_extract] at h
    rw [lw_inj h]
end Go.Proofs.YtcgcicngfemnlaaDoor.Q
namespace Go.Proofs.YtcgcicngfemnlaaDoor.Q
open Go.RowKit Go.Proofs.YtcgcicngfemnlaaDoorW.PrintWords Go.Proofs.YtcgcicngfemnlaaDoorW.PrintLast
theorem take_mono : ∀ (n : Nat) (x y : Ws), x.take n < y.take n → x < y
  | 0, x, y, h => by simp at h
  | n + 1, [], [], h => by simp at h
  | n + 1, [], b :: y, _ => List.nil_lt_cons _ _
  | n + 1, a :: x, [], h => by simp at h
  | n + 1, a :: x, b :: y, h => by
    rw [List.take_succ_cons, List.take_succ_cons, List.cons_lt_cons_iff] at h
    rw [List.cons_lt_cons_iff]
    rcases h with h | ⟨h1, h2⟩
    · exact .inl h
    · exact .inr ⟨h1, take_mono n x y h2⟩
theorem take_le {x y : Ws} (h : x ≤ y) (n : Nat) : x.take n ≤ y.take n := fun hlt => h (take_mono n y x hlt)
theorem between {x y z : Ws} (h1 : x ≤ y) (h2 : y ≤ z) {n : Nat} (e : x.take n = z.take n) : y.take n = x.take n := by
  have a := take_le h1 n
  have b := take_le h2 n
  rw [← e] at b
  exact List.le_antisymm b a
end Go.Proofs.YtcgcicngfemnlaaDoor.Q
namespace Go.Proofs.YtcgcicngfemnlaaDoor.Q
open Go.RowKit Go.Proofs.YtcgcicngfemnlaaDoorW.PrintWords Go.Proofs.YtcgcicngfemnlaaDoorW.PrintLast
theorem lcp_le : ∀ (a b : List UInt8), lcpN a b ≤ a.length ∧ lcpN a b ≤ b.length
  | [], b => by simp [lcpN]
  | _ :: _, [] => by simp [lcpN]
  | x :: a, y :: b => by
    have := lcp_le a b
    simp only [lcpN, List.length_cons]
    split <;> omega
theorem lcp_take : ∀ (a b : List UInt8) (n : Nat), n ≤ a.length → n ≤ b.length → (a.take n = b.take n ↔ n ≤ lcpN a b)
  | [], b, n, h1, _ => by simp at h1; simp [h1]
  | _ :: _, [], n, _, h2 => by simp at h2; simp [h2]
  | x :: a, y :: b, 0, _, _ => by simp
  | x :: a, y :: b, n + 1, h1, h2 => by
    simp only [List.length_cons] at h1 h2
    simp only [List.take_succ_cons, List.cons.injEq, lcpN]
    rw [lcp_take a b n (by omega) (by omega)]
    split
    · rename_i e; simp [e]
    · rename_i e; simp [e]
theorem all_begin {ws : List ByteArray} (hs : SW ws) (h0 : 0 < ws.length) (n : Nat) (hn : n ≤ (rdOf ByteArray.empty ws 0).size) :
    ((ws.filter fun w => begW w ((rdOf ByteArray.empty ws 0).extract 0 n)).length = ws.length) ↔ n ≤ lcpN (lw (rdOf ByteArray.empty ws 0)) (lw (rdOf ByteArray.empty ws ((ws.length : Int) - 1))) := by
  rw [List.length_filter_eq_length_iff]
  have hsz := ext_size (rdOf ByteArray.empty ws 0) n hn
  have hla := lw_length (rdOf ByteArray.empty ws 0)
  have hlb := lw_length (rdOf ByteArray.empty ws ((ws.length : Int) - 1))
  constructor
  · intro h
    have hm : rdOf ByteArray.empty ws ((ws.length : Int) - 1) ∈ ws := at_mem (by omega) (by omega)
    obtain ⟨a, b⟩ := (begW_iff _ _).1 (h _ hm)
    rw [hsz] at a b
    rw [lw_extract] at b
    exact (lcp_take _ _ n (by omega) (by omega)).1 b.symm
  · intro h w hw
    obtain ⟨hl1, hl2⟩ := lcp_le (lw (rdOf ByteArray.empty ws 0)) (lw (rdOf ByteArray.empty ws ((ws.length : Int) - 1)))
    obtain ⟨i, i0, i1, e⟩ := mem_at hw
    have h1 := hs.at (i := 0) (j := i) (by omega) i0 i1
    have h2 := hs.at (i := i) (j := (ws.length : Int) - 1) i0 (by omega) (by omega)
    unfold atW at h1 h2
    rw [e] at h1 h2
    have ht := (lcp_take _ _ n (by omega) (by omega)).2 h
    have hb := between h1 h2 ht
    rw [begW_iff, hsz, lw_extract]
    refine ⟨?_, hb⟩
    have := congrArg List.length hb
    rw [List.length_take, List.length_take, hla, lw_length] at this
    omega
theorem shared_l0 {ws : List ByteArray} (hs : SW ws) (h0 : 0 < ws.length) (hl : ws.length ≤ 1000000) (hz : (rdOf ByteArray.empty ws 0).size ≤ 1000000) : ∀ (d n : Nat), n = lcpN (lw (rdOf ByteArray.empty ws 0)) (lw (rdOf ByteArray.empty ws ((ws.length : Int) - 1))) + d → n ≤ (rdOf ByteArray.empty ws 0).size →
    Ev (fun k => spec_l3Shared.l0 k ws ((rdOf ByteArray.empty ws 0).extract 0 n)) ((rdOf ByteArray.empty ws 0).extract 0 (lcpN (lw (rdOf ByteArray.empty ws 0)) (lw (rdOf ByteArray.empty ws ((ws.length : Int) - 1))))) := by
  intro d
  induction d with
  | zero =>
    intro n hn hle
    refine Ev.succ ?_
    simp only [spec_l3Shared.l0]
    refine Ev.bind (under3_ev ws _ hl) (Ev.neg ?_ ?_)
    · rw [(all_begin hs h0 n hle).2 (by omega)]; omega
    · rw [show n = lcpN (lw (rdOf ByteArray.empty ws 0)) (lw (rdOf ByteArray.empty ws ((ws.length : Int) - 1))) by omega]
      exact Ev.pure _
  | succ d ih =>
    intro n hn hle
    have hsz := ext_size (rdOf ByteArray.empty ws 0) n hle
    refine Ev.succ ?_
    simp only [spec_l3Shared.l0]
    refine Ev.bind (under3_ev ws _ hl) (Ev.pos ?_ ?_)
    · have h1 := List.length_filter_le (fun w => begW w ((rdOf ByteArray.empty ws 0).extract 0 n)) ws
      have h2 : ¬ (ws.filter fun w => begW w ((rdOf ByteArray.empty ws 0).extract 0 n)).length = ws.length := fun e => by
        have := (all_begin hs h0 n hle).1 e
        omega
      omega
    · have e : wrap64 ((((rdOf ByteArray.empty ws 0).extract 0 n).size : Int) - 1) = ((n - 1 : Nat) : Int) := by rw [hsz]; unfold wrap64; omega
      rw [e, hsz, Int.toNat_natCast, ext_ext _ _ _ (by omega)]
      exact Ev.pos (by omega) (Ev.pos (by omega) (ih (n - 1) (by omega) (by omega)))
theorem shared_ev {ws : List ByteArray} (hs : SW ws) (h0 : 0 < ws.length) (hl : ws.length ≤ 1000000) (hz : (rdOf ByteArray.empty ws 0).size ≤ 1000000) : Ev (fun k => spec_l3Shared.f k ws) ((rdOf ByteArray.empty ws 0).extract 0 (lcpN (lw (rdOf ByteArray.empty ws 0)) (lw (rdOf ByteArray.empty ws ((ws.length : Int) - 1))))) := by
  obtain ⟨hl1, _⟩ := lcp_le (lw (rdOf ByteArray.empty ws 0)) (lw (rdOf ByteArray.empty ws ((ws.length : Int) - 1)))
  have hla := lw_length (rdOf ByteArray.empty ws 0)
  have := shared_l0 hs h0 hl hz ((rdOf ByteArray.empty ws 0).size - lcpN (lw (rdOf ByteArray.empty ws 0)) (lw (rdOf ByteArray.empty ws ((ws.length : Int) - 1)))) (rdOf ByteArray.empty ws 0).size (by omega) (Nat.le_refl _)
  rw [ext_all] at this
  unfold spec_l3Shared.f
  exact Ev.pos (by omega) this
theorem implShared {ws : List ByteArray} (h0 : 0 < ws.length) (hl : ws.length ≤ 1000000) (hz : ∀ w ∈ ws, w.size ≤ 1000000) : impl_shared.f ws = some ((rdOf ByteArray.empty ws 0).extract 0 (lcpN (lw (rdOf ByteArray.empty ws 0)) (lw (rdOf ByteArray.empty ws ((ws.length : Int) - 1))))) := by
  have h1 := hz _ (at_mem (l := ws) (i := 0) (by omega) (by omega))
  have h2 := hz _ (at_mem (l := ws) (i := (ws.length : Int) - 1) (by omega) (by omega))
  unfold impl_shared.f
  rw [if_pos ⟨h0, by omega, by omega, by omega⟩]
end Go.Proofs.YtcgcicngfemnlaaDoor.Q
namespace Go.Proofs.YtcgcicngfemnlaaDoor.Q
open Go.ChangeShapes Go.WideShapes Go.Deep Go.RowKit Go.Proofs.YtcgcicngfemnlaaDoorW.PrintWords Go.Proofs.YtcgcicngfemnlaaDoorW.PrintLast Go.Proofs.YtcgcicngfemnlaaDoorW.PrintMore
def I64 (n : Int) : Prop := -9223372036854775808 ≤ n ∧ n ≤ 9223372036854775807
theorem I64_of {n : Int} (h : (Lit.int .i64 n).wf = true) : I64 n := by
  have h1 : IntKind.i64.min = -9223372036854775808 := by decide
  simp [Lit.wf, h1] at h
  exact h
set_option maxRecDepth 100000 in
theorem open_trie {H : Type} {enc : TypeId × Value → H} {w : World} {base b0 : Nat} {spare : Nat → Bool} {held : Bool} {r : Reach} {v : Value} {d : DataW H} {p : List MemPlace} (hv : Value.okWide Tryd.prog w r b0 24 v) (h : DataW.Trod enc Tryd.prog w base spare held 24 v d p) :
    ∃ (A : Option Addr) (c : Nat) (l : List S54), v = .agg #[.slice A l.length c] ∧ Kd.C k54 w A l.length l ∧ l.length ≤ c ∧ l.length ≤ maxLen ∧ ∀ x ∈ l, I64 x.f0 ∧ I64 x.f1 := by
  obtain ⟨cs, rfl, hsz⟩ := okWide_struct Tryd.underlying24 hv
  have hct : Tryd.prog.cellsOf 24 = 1 := by kernel_rfl
  have hsz1 : cs.size = 1 := hsz.trans hct
  obtain ⟨c0, rfl⟩ : ∃ c0, cs = #[c0] := ⟨cs[0], by
    apply Array.ext
    · simp [hsz1]
    · intro i h1 h2
      have : i = 0 := by omega
      subst this; rfl⟩
  obtain ⟨fuel, hf⟩ := h
  obtain ⟨xs, n, _, hx, _, hlen, hg⟩ := DataW.trod_struct Tryd.underlying24 hf
  have h0 := hg 0 _ rfl
  have hc1 : Tryd.prog.cellsOf 22 = 1 := by kernel_rfl
  simp only [Value.cells, List.drop_zero, hc1] at h0
  have h0' : DataW.trod enc Tryd.prog w base spare held n 22 [c0] = xs[0]? := h0
  rw [List.getElem?_eq_getElem (show 0 < xs.length by rw [hlen]; decide)] at h0'
  have hC : Tryd.prog.cellsOf 54 = 3 := by kernel_rfl
  have i1 : Tryd.prog.cellsOf 3 = 1 := by kernel_rfl
  have i2 : Tryd.prog.cellsOf 4 = 1 := by kernel_rfl
  rcases open_slice Tryd.underlying22 h0' with ⟨e, _⟩ | ⟨a, len, cap, m, n', D, Pl, e, _, hl, hm, hmm, _, hi⟩
  · injection e with e
    subst e
    exact ⟨none, 0, [], rfl, ⟨rfl, by decide, fun h => absurd h (by decide)⟩, Nat.le_refl _, Nat.zero_le _, fun x hx => by cases hx⟩
  · injection e with e
    subst e
    have hlm : len ≤ m := by rw [hmm]; split <;> omega
    have hex : ∀ i, i < len → ∃ x : S54, I64 x.f0 ∧ I64 x.f1 ∧ ∀ j u, [Value.int .i64 x.f0, .int .i64 x.f1, .bool x.f2][j]? = some u → w.cell? (a.add (i * 3 + j)) = some u := by
      intro i hil
      obtain ⟨cs', hc, ht'⟩ := hi i (by omega)
      rw [hC] at hc
      obtain ⟨ys, n2, _, _, hcl, hyl, hfl⟩ := DataW.trod_struct Tryd.underlying54 ht'
      obtain ⟨_, hcl3, hat⟩ := World.cells?_some hc
      have f0 := hfl 0 _ rfl
      have f1 := hfl 1 _ rfl
      have f2 := hfl 2 _ rfl
      rw [hC] at hcl
      obtain ⟨u0, u1, u2, rfl⟩ : ∃ u0 u1 u2, cs' = [u0, u1, u2] := by
        match cs', hcl with
        | [u0, u1, u2], _ => exact ⟨u0, u1, u2, rfl⟩
      replace f0 : DataW.trod enc Tryd.prog w base spare held n2 3 ((List.drop 0 [u0, u1, u2]).take (Tryd.prog.cellsOf 3)) = ys[0]? := f0
      rw [i1] at f0
      replace f0 : DataW.trod enc Tryd.prog w base spare held n2 3 [u0] = ys[0]? := f0
      replace f1 : DataW.trod enc Tryd.prog w base spare held n2 3 ((List.drop 1 [u0, u1, u2]).take (Tryd.prog.cellsOf 3)) = ys[1]? := f1
      rw [i1] at f1
      replace f1 : DataW.trod enc Tryd.prog w base spare held n2 3 [u1] = ys[1]? := f1
      replace f2 : DataW.trod enc Tryd.prog w base spare held n2 4 ((List.drop 2 [u0, u1, u2]).take (Tryd.prog.cellsOf 4)) = ys[2]? := f2
      rw [i2] at f2
      replace f2 : DataW.trod enc Tryd.prog w base spare held n2 4 [u2] = ys[2]? := f2
      rw [List.getElem?_eq_getElem (show 0 < ys.length by rw [hyl]; decide)] at f0
      rw [List.getElem?_eq_getElem (show 1 < ys.length by rw [hyl]; decide)] at f1
      rw [List.getElem?_eq_getElem (show 2 < ys.length by rw [hyl]; decide)] at f2
      obtain ⟨x0, e0, _, w0⟩ := DataW.trod_int Tryd.underlying3 f0
      obtain ⟨x1, e1, _, w1⟩ := DataW.trod_int Tryd.underlying3 f1
      obtain ⟨x2, e2, _⟩ := DataW.trod_bool Tryd.underlying4 f2
      injection e0 with e0
      injection e1 with e1
      injection e2 with e2
      subst e0; subst e1; subst e2
      refine ⟨⟨x0, x1, x2⟩, I64_of w0, I64_of w1, fun j u hj => ?_⟩
      obtain ⟨hj3, hju⟩ := List.getElem?_eq_some_iff.1 hj
      rw [← Go.Deep.add_add, hat j (show j < 3 from hj3)]
      exact hj
    obtain ⟨f, hf⟩ : ∃ f : Nat → S54, ∀ i, i < len → I64 (f i).f0 ∧ I64 (f i).f1 ∧ ∀ j u, [Value.int .i64 (f i).f0, .int .i64 (f i).f1, .bool (f i).f2][j]? = some u → w.cell? (a.add (i * 3 + j)) = some u :=
      ⟨fun i => if h : i < len then Classical.choose (hex i h) else ⟨0, 0, false⟩, fun i h => by simp only [h, dite_true]; exact Classical.choose_spec (hex i h)⟩
    have hfl : ((List.range len).map f).length = len := by simp
    refine ⟨some a, cap, (List.range len).map f, by rw [hfl], ?_, by rw [hfl]; exact hl, by rw [hfl]; omega, ?_⟩
    · rw [hfl]
      refine ⟨by simp, by unfold maxLen at hm; omega, fun _ => ⟨a, rfl, fun j p hj => ?_⟩⟩
      obtain ⟨hjl, rfl⟩ := List.getElem?_eq_some_iff.1 hj
      rw [hfl] at hjl
      refine ⟨_, rfl, k54_mk w _, fun i u hu => ?_⟩
      simp only [List.getElem_map, List.getElem_range] at hu
      exact (hf j hjl).2.2 i u hu
    · intro x hx
      obtain ⟨i, hi, rfl⟩ := List.mem_map.1 hx
      exact ⟨(hf i (List.mem_range.1 hi)).1, (hf i (List.mem_range.1 hi)).2.1⟩
end Go.Proofs.YtcgcicngfemnlaaDoor.Q
namespace Go.Proofs.YtcgcicngfemnlaaDoor.Q
open Go.RowKit Go.Proofs.YtcgcicngfemnlaaDoorW.PrintWords Go.Proofs.YtcgcicngfemnlaaDoorW.PrintLast
theorem both_CompleteTo (l : List IN) (w : ByteArray) : ∃ r, Ev (fun k => spec_CompleteTo.f k l w) r ∧ Ev (fun k => impl_CompleteTo.f k l w) r := by
  unfold spec_CompleteTo.f impl_CompleteTo.f
  have hsj : ∀ l, Ev (fun k => spec_CompleteTo.j0 k w true l) (⟨#[]⟩, false) := fun l => by
    refine Ev.succ ?_
    simp only [spec_CompleteTo.j0]
    exact Ev.pos (by simp) (Ev.pure _)
  have hij : ∀ l, Ev (fun k => impl_CompleteTo.j0 k w true l) (⟨#[]⟩, false) := fun l => by
    refine Ev.succ ?_
    simp only [impl_CompleteTo.j0]
    exact Ev.pos (by simp) (Ev.pure _)
  rcases kept_cases l w with ⟨hf, hk⟩ | ⟨ht, hw, hk⟩ | ⟨ws, hv, rfl, ht, hw, hk⟩
  · exact ⟨(⟨#[]⟩, false), Ev.bind (specT l hf) (Ev.neg (by decide) (hsj l)), Ev.bind hk (Ev.neg (by decide) (hij l))⟩
  · exact ⟨(⟨#[]⟩, false), Ev.bind (specT l ht) (Ev.pos rfl (Ev.bind (specW_f hw) (hsj l))), Ev.bind hk (Ev.neg (by decide) (hij l))⟩
  · have h3 := hv.len
    have hfl := List.length_filter_le (fun x => begW x w) ws
    have hu := under3_ev ws w (by omega)
    have hi : Ev (fun k => impl_Trie_under.f k (trieW ws) w) (ws.filter fun x => begW x w) := by
      unfold impl_Trie_under.f
      exact Ev.bind (implWords hv) (Ev.pure _)
    have hss : SW (ws.filter fun x => begW x w) := SS.sw (hv.ss.filter _)
    have hz : ∀ x ∈ (ws.filter fun x => begW x w), x.size ≤ 1000000 := fun x hx => by have := (hv.ok x (List.mem_filter.1 hx).1).1; omega
    generalize (ws.filter fun x => begW x w) = us at hfl hu hi hss hz
    by_cases h0 : 0 < us.length
    · have e0 : ((us.length : Int) == 0) = false := beq_eq_false_iff_ne.2 (by omega)
      refine ⟨((rdOf ByteArray.empty us 0).extract 0 (lcpN (lw (rdOf ByteArray.empty us 0)) (lw (rdOf ByteArray.empty us ((us.length : Int) - 1)))), true), Ev.bind (specT _ ht) (Ev.pos rfl (Ev.bind (specW_t hw) (Ev.succ ?_))), Ev.bind hk (Ev.pos rfl (Ev.bind hi ?_))⟩
      · simp only [spec_CompleteTo.j0]
        exact Ev.neg (by simp) (Ev.bind (specWords hv) (Ev.bind hu (Ev.neg (by omega) (Ev.bind (shared_ev hss h0 (by omega) (hz _ (at_mem (by omega) (by omega)))) (Ev.pure _)))))
      · rw [e0]
        refine Ev.succ ?_
        simp only [impl_CompleteTo.j0]
        exact Ev.neg (by simp) (Ev.bind hi (Ev.bindc (implShared h0 (by omega) hz) (Ev.pure _)))
    · have hn : us = [] := List.eq_nil_of_length_eq_zero (by omega)
      subst hn
      refine ⟨(⟨#[]⟩, false), Ev.bind (specT _ ht) (Ev.pos rfl (Ev.bind (specW_t hw) (Ev.succ ?_))), Ev.bind hk (Ev.pos rfl (Ev.bind hi (hij _)))⟩
      simp only [spec_CompleteTo.j0]
      exact Ev.neg (by simp) (Ev.bind (specWords hv) (Ev.bind hu (Ev.pos rfl (Ev.pure _))))
theorem pure_FnExactCompleteTo (l0 : List LN) (a1 : ByteArray) (hl_l0 : l0.length ≤ maxLen) (hI_l0 : ∀ x ∈ l0, I64 x.f0 ∧ I64 x.f1) (hw_a1 : a1.size ≤ 140737488351232) : ∃ k, laws_FnExactCompleteTo.f k l0 a1 = some true := by
  refine Ev.ex ?_
  unfold laws_FnExactCompleteTo.f
  by_cases hs1 : (a1.size : Int) > 1048576
  · exact Ev.pos hs1 (Ev.pure _)
  refine Ev.neg hs1 ?_
  by_cases h_l0 : l0.length ≤ 1048576
  case neg => exact Ev.bindc (szTrie_eq l0 (by unfold maxLen at hl_l0; omega)) (by rw [if_neg h_l0]; exact Ev.pos (by decide) (Ev.pure _))
  refine Ev.bindc (szTrie_eq l0 (by unfold maxLen at hl_l0; omega)) ?_
  rw [if_pos h_l0]
  refine Ev.neg (by omega) ?_
  have ht_l0 := toTrie_ev l0 (by omega)
  have hc_l0 : (cv l0).length ≤ 1048576 := by rw [cv_length]; omega
  obtain ⟨r, e1, e2⟩ := both_CompleteTo (cv l0) a1
  refine (Ev.bind ht_l0 (Ev.bind e1 (Ev.bind ht_l0 (Ev.bind e2 ?_))))
  refine Ev.pos rfl (Ev.succ ?_)
  simp only [laws_FnExactCompleteTo.j0]
  exact Ev.neg (by simp) (Ev.bind ht_l0 (Ev.bind (eqTrie_ev _ _ hc_l0) (Ev.pos (by simp) (Ev.pure _))))
end Go.Proofs.YtcgcicngfemnlaaDoor.Q
namespace Go.Proofs.YtcgcicngfemnlaaDoor.Pure
theorem FnExactCompleteTo (l0 : List Q.LN) (a1 : ByteArray) (hl_l0 : l0.length ≤ maxLen) (hI_l0 : ∀ x ∈ l0, Q.I64 x.f0 ∧ Q.I64 x.f1) (hw_a1 : a1.size ≤ 140737488351232) : ∃ k, Q.laws_FnExactCompleteTo.f k l0 a1 = some true := Q.pure_FnExactCompleteTo l0 a1 hl_l0 hI_l0 hw_a1
end Go.Proofs.YtcgcicngfemnlaaDoor.Pure
namespace Go.Proofs.YtcgcicngfemnlaaDoor.fnExactCompleteTo
open Go.ChangeShapes Go.WideShapes Go.ChangeAt Go.RowKit
open Go.ChangeMaps (open_string shut_string)
set_option linter.unusedVariables false
theorem own : ownKnob Tryd.prog.godebug = none := by kernel_rfl
theorem laidOut : laidOutB Tryd.prog = true := by kernel_rfl
set_option maxRecDepth 100000 in
theorem lifted (os : Os) (started : os.Started) (H : Type) (enc : TypeId × Value → H) :
    ReturnsInHanded {} Tryd.checked os 3 .any (fun w args => (Rows.fnExactCompleteToSpec.pre enc Tryd.prog Tryd.f3 Rows.fnExactCompleteToRow.domain false w args ∧ laidMetH Tryd.prog Rows.fnExactCompleteToRow.laid w) ∧ sizedMet enc Tryd.prog Tryd.f3 (OpenSpec.ofChange Rows.fnExactCompleteToSpec) false w args) (Rows.fnExactCompleteToSpec.post enc Tryd.prog Tryd.f3 false true false false) := by
  refine returnsInHanded_of_change_and (C := Tryd.checked) (X := fun w _ => laidMetH Tryd.prog Rows.fnExactCompleteToRow.laid w) (fun _ _ _ hh h => h.of_heap hh) own started (by kernel_rfl) Tryd.func3
    (ChangeSpec.witness_shaped (enc := enc) (C := Tryd.checked) (os := os) (X := fun w _ => laidMetH Tryd.prog Rows.fnExactCompleteToRow.laid w) false (World.laidAll Tryd.prog os Rows.fnExactCompleteToRow.laid) #[.agg #[.slice none 0 0], .string ByteArray.empty] 8 (World.laidAll_os _ _ _)
      (World.shaped_of_ZipB (by kernel_rfl) (by kernel_rfl)) (by kernel_rfl) (by kernel_rfl) (by kernel_rfl)
      (by rw [MakeChecks.laidMetH_plain _ _ _ (by kernel_rfl)]; exact laidMet_laidAll _ (by kernel_rfl) (by kernel_rfl))) ?_
  intro W base args ds gs before hval0 hW hcnd hsz0 hL _
  have hsz : (DataW.weightsEach Tryd.prog (Tryd.f3.params.toList ++ Rows.fnExactCompleteToSpec.plain.varTypes Tryd.prog) (ds ++ gs)).all (· ≤ reachBytes) = true := hsz0
  have hval : ∀ (j : Nat) t v, Tryd.f3.params[j]? = some t → args[j]? = some v → Value.okWide Tryd.prog W .any base t v := hval0
  have hW' := hW
  obtain ⟨p, q, hA0, hV, rfl, hfz, hnd⟩ := hW
  have hA : DataW.TrodAll enc Tryd.prog W 0 (fun _ => true) true Tryd.f3.params.toList args.toList ds p := hA0
  rw [Tryd.params3] at hA hval hsz
  obtain ⟨v0, vs0, d0, ds0, p0, q0, hargs, rfl, rfl, h0, r0⟩ := trodAll_cons hA
  obtain ⟨v1, vs1, d1, ds1, p1, q1, rfl, rfl, rfl, h1, r1⟩ := trodAll_cons r0
  obtain ⟨rfl, rfl, rfl⟩ := trodAll_nil r1
  obtain rfl : args = #[v0, v1] := by cases args; simp_all
  obtain ⟨rfl, rfl⟩ := trodVars_none hV
  have k0 := h0
  have lt0 : ∀ x ∈ p0, x.block < W.heap.size := by obtain ⟨m, hm⟩ := k0; exact DataW.trod_lt m _ _ _ hm
  obtain ⟨A0, c0, l0, rfl, hC0, hc0, hl0, hI0⟩ := Q.open_trie (hval 0 24 v0 rfl rfl) h0
  obtain ⟨a1, rfl, rfl, rfl, y1⟩ := open_string Tryd.underlying9 (hval 1 9 v1 rfl rfl) h1
  have w1 : a1.size ≤ 140737488351232 := by
    have z := sized_string hsz (j := 1) (t := 9) rfl rfl
    rw [Array.length_toList] at z
    exact z
  clear hA0 hval0 hsz0 hsz
  obtain ⟨k, hk⟩ := Pure.FnExactCompleteTo l0 a1 hl0 hI0 w1
  refine (Q.laws_FnExactCompleteTo.calls k A0 c0 l0 a1 true W hC0 hc0 hk).mono fun e W' ⟨he, bel0⟩ => ?_
  have bel : Below W.heap.size W W' := bel0
  subst he
  exact ⟨_, rfl, _, _, _, [], _, [], hW', trodAll_mk1 (shut_bool Tryd.underlying4 _), (trodAll_cons_mk (Below.trod laidOut (by kernel_rfl) (of_decide_eq_true (by kernel_rfl)) k0 bel lt0) (trodAll_cons_mk (shut_string Tryd.underlying9 y1) trodAll_mk0)), rfl, bel.frame _, fun h => by cases h⟩
theorem over : Rows.fnExactCompleteToRow.holds Tryd.pinned (OpenSpec.ofChange Rows.fnExactCompleteToSpec) :=
  OpenClaim.holds_of_wide 3 Tryd.f3 rfl rfl rfl rfl rfl rfl rfl ⟨rfl, rfl, rfl, rfl, rfl⟩ rfl rfl rfl rfl rfl (by kernel_rfl) Tryd.func3 (by kernel_rfl)
    (of_decide_eq_true (by kernel_rfl)) (by unfold Func.isWrapper; first | (rw [if_pos (by decide +kernel)]; kernel_rfl) | (rw [if_neg (by decide +kernel)]; exact ⟨rfl, rfl⟩))
    (fun os started H enc _ => lifted os started H enc)
set_option maxRecDepth 100000 in
theorem proved : Rows.FnExactCompleteToCardSaid :=
  Claim7.holds_tied_plain_at .later [] [.data, .pinned] true (true, "e9884d8941addb5282dd0cc9eaaaa04da5f38a0e0685b3ac900e77b0a75c139c") false over (fun _ h => by cases h) (by kernel_rfl) (fun _ h => by cases h) fnExactCompleteTo_row_tie rfl ⟨rfl, rfl⟩ (by kernel_rfl) rfl
    (fun f fn hf hfn => by
      obtain rfl : f = 3 := Option.some.inj ((show Tryd.prog.funcNamed Tryd.f3.name = some 3 by kernel_rfl).symm.trans hf) |>.symm
      obtain rfl : fn = Tryd.f3 := (Option.some.inj (Tryd.func3.symm.trans hfn)).symm
      exact ⟨by kernel_rfl, fun j t ht => by
        rw [Tryd.params3] at ht
        have hm : t ∈ [24, 9] := by simpa using Array.mem_of_getElem? ht
        have hall : ([24, 9].all fun u => !Tryd.prog.wantsStandIn u) = true := by kernel_rfl
        exact (show Tryd.prog.wantsStandIn t = false by simpa using List.all_eq_true.1 hall t hm)⟩)
    (by kernel_rfl)
end Go.Proofs.YtcgcicngfemnlaaDoor.fnExactCompleteTo
namespace Go.Proofs.YtcgcicngfemnlaaDoor
theorem fnExactCompleteTo_holds : Rows.FnExactCompleteToCardSaid := fnExactCompleteTo.proved
end Go.Proofs.YtcgcicngfemnlaaDoor
