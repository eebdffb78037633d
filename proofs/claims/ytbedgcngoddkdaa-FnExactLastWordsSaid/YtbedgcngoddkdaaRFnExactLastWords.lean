/- The law FnExactLastWords: for every input the call answers true and leaves its arguments as they were. -/
import Derived.Test.YtbedgcngoddkdaaH0
import Derived.Test.YtbedgcngoddkdaaH1
import Derived.Test.YtbedgcngoddkdaaH2
import Derived.Test.YtbedgcngoddkdaaH3
import Derived.Test.YtbedgcngoddkdaaH4
import Derived.Test.YtbedgcngoddkdaaH6
import Derived.Test.YtbedgcngoddkdaaH8
import Derived.Test.YtbedgcngoddkdaaH9
import Derived.Test.YtbedgcngoddkdaaH13
import Derived.Lib.SlicesCompact
import Derived.Test.YtbedgcngoddkdaaProg
import Derived.Below
import Derived.Deep.Draws
import Derived.Deep.AppendLies
import Derived.Maps.AppendAt
import Derived.OwnWalk
import Derived.Laws.BytesArg
import Derived.Laws.MakeOwn
import Derived.Laws.OwnMore
import Derived.Deep.OwnRows
import Derived.Tactics
import Derived.Lib.ConvBytes
import Derived.Laws.Slices
import Derived.WalkKit
import Derived.KernelRfl
import Derived.RowKit3
import Derived.Deep.LoopGhost
import Derived.Deep.QuietTactic
import Derived.BigQuiet
import Derived.WideLaws
import Derived.Deep.DeepCutAuto
import Derived.Deep.CutBlock
import Derived.Deep.RegionHeld3
import Derived.Laws.Rows
import Derived.Lib.AppendStr
import Derived.ArgAppend
import Derived.Laws.IdiomCopy
import Derived.OrdersHeld
import Derived.Laws.BitsLemmas
import Derived.RowKit
import Derived.Shelf.SlicesE.DeleteFunc
import Derived.Ground.NamesProg
import Derived.Ground.SlgfProg
import Derived.Lib.SliceRun
import Derived.Lib.OwnBridge
import Derived.Sort.OwnSorted
import Derived.Sort.Grow
import Derived.Sort.Walk0
import Derived.Lib.Strings
import Derived.Maps.Own
import Derived.StringKeys
import Derived.Maps.OwnOps
import Derived.Maps.OwnSet
import Derived.Maps.Views
import Derived.Laws.AppendOwn
import Derived.Deep.DrawnRows
import Derived.Shelf.Sort.Plain
import Derived.Shelf.Slices.CompactS
import Derived.Shelf.Slices.In.SortNone
import Derived.RangeFuncBox
import Derived.RangeFuncLeaves
import Derived.Shelf.Abstract
import Derived.OwnWalkIn
import Derived.TacticsInMore
import Derived.LoopNIn
import Derived.LoopIn
import Derived.Shelf.Strings.OnBuilder
import Derived.Lib.SlKept
import Derived.Deep.Slices
import Derived.Deep.Fields
import Derived.ChangeSame
import Derived.ChangeArms
import Derived.WideShapes
import Derived.Test.YtbedgcngoddkdaaRows
import Derived.ProofKit
import Derived.OpenShut
import Derived.ShutString
import Derived.ChangeOld
import Derived.SizedLaws
import Derived.Carry
set_option linter.unusedVariables false
set_option linter.unusedSimpArgs false
namespace Go.Proofs.Ytbedgcngoddkdaa.Q
open Go.RowKit Go.Proofs.YtbedgcngoddkdaaW.PrintWords
theorem SS.nodup {l : List ByteArray} (h : SS l) : l.Nodup := h.imp (fun {a b} h e => by subst e; exact List.lt_irrefl _ h)
end Go.Proofs.Ytbedgcngoddkdaa.Q
namespace Go.Proofs.Ytbedgcngoddkdaa.Q
open Go.RowKit Go.Proofs.YtbedgcngoddkdaaW.PrintWords Go.Proofs.YtbedgcngoddkdaaW.PrintLast Go.Proofs.YtbedgcngoddkdaaW.PrintMore
attribute [local go_sem] run_field_23 run_field_24 run_field_29 run_field_30 run_field_51 run_field_52 isSome_setCell max2_int min2_int max_two min_two max_three min_three max_four min_four   -- for this text's walks alone
set_option linter.unusedVariables false
set_option linter.unusedSimpArgs false
def spec_LastWords.f (k : Nat) (l0_0 : List (S86)) : Option ((List (S86)) × Bool) := (spec_l2Trie.f k l0_0).bind fun t775 => (if t775 = true then ((spec_l2Words.f k l0_0).bind fun t776 => ((spec_l5First.f k t776 false).bind fun t779 => ((spec_l5Made.f k t779).bind fun bt782 => (some (bt782.1, bt782.2))))) else (some (([] : List (S86)), false)))
set_option maxHeartbeats 8000000 in
set_option maxRecDepth 100000 in
theorem spec_LastWords.calls (k : Nat) (A0_0 : Option Addr) (c0_0 : Nat) (l0_0 : List (S86)) (r1 : List (S86)) (r2 : Bool) (w : World) (hr0_0 : Kd.C k86 w A0_0 l0_0.length l0_0) (hc0_0 : l0_0.length ≤ c0_0) (h : spec_LastWords.f k l0_0 = some (r1, r2)) :
    Calls Try.prog 43 #[.agg #[.slice A0_0 l0_0.length c0_0]] w fun e w' => ∃ v0_ : Value, e = .returned (.tuple #[.agg #[v0_], .bool r2]) ∧ Kd.R k86 86 w' w.heap.size (fun _ => True) v0_ r1 ∧ Below w.heap.size w w' := by
  have hu30 := Try.underlying30
  have HR0_0 := Aside0.mk hr0_0
  have HC0_0 := Aside0.mk hc0_0
  clear hr0_0 hc0_0
  have HB := Aside0.mk (Below.refl w.heap.size w)
  have H : ((spec_l2Trie.f k l0_0).bind fun t775 => (if t775 = true then ((spec_l2Words.f k l0_0).bind fun t776 => ((spec_l5First.f k t776 false).bind fun t779 => ((spec_l5Made.f k t779).bind fun bt782 => (some (bt782.1, bt782.2))))) else (some (([] : List (S86)), false)))) = some (r1, r2) := h
  clear h
  replace H := Option.bind_eq_some_iff.mp H
  obtain ⟨t775, A20, H⟩ := H
  replace H : (if t775 = true then ((spec_l2Words.f k l0_0).bind fun t776 => ((spec_l5First.f k t776 false).bind fun t779 => ((spec_l5Made.f k t779).bind fun bt782 => (some (bt782.1, bt782.2))))) else (some (([] : List (S86)), false))) = some (r1, r2) := H
  have A2 := Aside0.mk A20
  clear A20
  by_cases c3 : t775 = true
  · subst c3
    have H1 : ((spec_l2Words.f k l0_0).bind fun t776 => ((spec_l5First.f k t776 false).bind fun t779 => ((spec_l5Made.f k t779).bind fun bt782 => (some (bt782.1, bt782.2))))) = some (r1, r2) := by rw [if_pos rfl] at H; exact H
    clear H
    have H := H1
    clear H1
    replace H := Option.bind_eq_some_iff.mp H
    obtain ⟨t776, A40, H⟩ := H
    replace H : ((spec_l5First.f k t776 false).bind fun t779 => ((spec_l5Made.f k t779).bind fun bt782 => (some (bt782.1, bt782.2)))) = some (r1, r2) := H
    have A4 := Aside0.mk A40
    clear A40
    replace H := Option.bind_eq_some_iff.mp H
    obtain ⟨t779, A50, H⟩ := H
    replace H : ((spec_l5Made.f k t779).bind fun bt782 => (some (bt782.1, bt782.2))) = some (r1, r2) := H
    have A5 := Aside0.mk A50
    clear A50
    replace H := Option.bind_eq_some_iff.mp H
    obtain ⟨⟨t782, t785⟩, A60, H⟩ := H
    replace H : (some (t782, t785)) = some (r1, r2) := H
    have A6 := Aside0.mk A60
    clear A60
    simp only [Option.some.injEq, Prod.mk.injEq] at H
    obtain ⟨rfl, rfl⟩ := H
    go_enter Try.func43, Try.ntmps43
    go_wp2_with (first | ((with_reducible refine gate_dst (N := 1) rfl ?_); refine box_event ?hg (N := 1) ?hd (cs := #[.slice A0_0 l0_0.length c0_0]) (t := 30) ?hr ?_; (case hd => rfl); (case hg => rfl); (case hr => first | (go_simp; done) | (go_simp; rfl)); intro gb773 hg w7 hbox hb; have n0_ := Aside0.mk (below_step (by repeat (first | (with_reducible first | exact HB.out | apply below_alloc | apply pw_below_drewN | apply below_drew1) | exact HB.out)) hb); have n1_ := Aside0.mk (hbox); have n2_ := Aside0.mk ((by rw [hg]; exact (below_size (by repeat (first | (with_reducible first | exact HB.out | apply below_alloc | apply pw_below_drewN | apply below_drew1) | exact HB.out))) : w.heap.size ≤ gb773)); have n3_ := Aside0.mk ((by rw [hg]; exact (below_size (by repeat (first | (with_reducible first | exact HB.out | apply below_alloc | apply pw_below_drewN | apply below_drew1) | exact HB.out))) : w.heap.size ≤ gb773)); clear HB; have HB := n0_; have BK773 := n1_; have GW773 := n2_; have GE773 := n3_; clear n0_ n1_ n2_ n3_; clear hb hbox hg) | ((with_reducible refine gate_dst (N := 2) rfl ?_); refine box_event ?hg (N := 2) ?hd (cs := #[.slice none 0 0]) (t := 30) ?hr ?_; (case hd => rfl); (case hg => rfl); (case hr => first | (go_simp; done) | (go_simp; rfl)); intro gb774 hg w8 hbox hb; have n0_ := Aside0.mk (blk_below (g := gb773) (o := .cells #[.slice A0_0 l0_0.length c0_0] 30 (0, 0)) (by (with_reducible repeat (first | refine blk_drewN ?_ _ | refine blk_drew ?_ | refine blk_alloc ?_ _)); exact BK773.out) hb); have n1_ := Aside0.mk (below_step (by repeat (first | (with_reducible first | exact HB.out | apply below_alloc | apply pw_below_drewN | apply below_drew1 | refine below_set ?_ GE773.out) | exact HB.out)) hb); have n2_ := Aside0.mk (hbox); have n3_ := Aside0.mk ((by rw [hg]; exact (below_size (by repeat (first | (with_reducible first | exact HB.out | apply below_alloc | apply pw_below_drewN | apply below_drew1 | refine below_set ?_ GE773.out) | exact HB.out))) : w.heap.size ≤ gb774)); have n4_ := Aside0.mk ((by rw [hg]; exact (below_size (by repeat (first | (with_reducible first | exact HB.out | apply below_alloc | apply pw_below_drewN | apply below_drew1 | refine below_set ?_ GE773.out) | exact HB.out))) : w.heap.size ≤ gb774)); have n5_ := Aside0.mk ((by rw [hg]; exact Nat.ne_of_lt (blk_lt (g := gb773) (o := .cells #[.slice A0_0 l0_0.length c0_0] 30 (0, 0)) (by (with_reducible repeat (first | refine blk_drewN ?_ _ | refine blk_drew ?_ | refine blk_alloc ?_ _)); exact BK773.out)) : gb773 ≠ gb774)); have n6_ := Aside0.mk ((by rw [hg]; exact Nat.ne_of_gt (blk_lt (g := gb773) (o := .cells #[.slice A0_0 l0_0.length c0_0] 30 (0, 0)) (by (with_reducible repeat (first | refine blk_drewN ?_ _ | refine blk_drew ?_ | refine blk_alloc ?_ _)); exact BK773.out)) : gb774 ≠ gb773)); clear BK773; clear HB; have BK773 := n0_; have HB := n1_; have BK774 := n2_; have GW774 := n3_; have GE774 := n4_; have NB773_774 := n5_; have NB774_773 := n6_; clear n0_ n1_ n2_ n3_ n4_ n5_ n6_; clear hb hbox hg; have hnb9 := NB773_774.out; have hnc9 := NB774_773.out; have hcz10_0 : w8.cell? ⟨gb773, 0, none⟩ = some (.slice A0_0 l0_0.length c0_0) := (blk_cell BK773.out 0).trans rfl; have hfz10_0 := blk_frozen BK773.out 0) | ((with_reducible refine gate_callee (f := 51) rfl ?_); refine goesL_ (some 5) rfl rfl Try.func51 (by kernel_rfl) rfl #[.agg #[.slice A0_0 l0_0.length c0_0]] rfl (by (try simp only [List.map_toArray, List.map_cons, List.map_nil]); first | done | rfl | (simp only [List.length_drop, List.length_take]; rfl)) ?_; (with_reducible refine (spec_l2Trie.calls k _ _ l0_0 true _ ?side1 ?side2 A2.out).mono ?_); (case side1 => repeat (first | exact (Kd.C_below HR0_0.out HB.out) | (with_reducible refine Kd.C_alloc ?_ _) | (with_reducible refine Kd.C_drewN ?_ _) | (with_reducible refine Kd.C_drew ?_))); (case side2 => exact HC0_0.out); rintro e w11 ⟨rfl, hb⟩; refine ⟨_, rfl, ?_⟩; have n0_ := Aside0.mk (blk_below (g := gb773) (o := .cells #[.slice A0_0 l0_0.length c0_0] 30 (0, 0)) (by (with_reducible repeat (first | refine blk_drewN ?_ _ | refine blk_drew ?_ | refine blk_alloc ?_ _)); exact BK773.out) hb); have n1_ := Aside0.mk (blk_below (g := gb774) (o := .cells #[.slice none 0 0] 30 (0, 0)) (by (with_reducible repeat (first | refine blk_drewN ?_ _ | refine blk_drew ?_ | refine blk_alloc ?_ _)); exact BK774.out) hb); have n2_ := Aside0.mk (below_step (by repeat (first | (with_reducible first | exact HB.out | apply below_alloc | apply pw_below_drewN | apply below_drew1 | refine below_set ?_ GE773.out | refine below_set ?_ GE774.out) | exact HB.out)) hb); clear BK773; clear BK774; clear HB; have BK773 := n0_; have BK774 := n1_; have HB := n2_; clear n0_ n1_ n2_; (try clear hb); (try clear hb2); (try clear hk); (try clear hi); have hcz12_0 : w11.cell? ⟨gb773, 0, none⟩ = some (.slice A0_0 l0_0.length c0_0) := (blk_cell BK773.out 0).trans rfl; have hfz12_0 := blk_frozen BK773.out 0) | ((with_reducible refine gate_callee (f := 53) rfl ?_); refine goesL_ (some 9) rfl rfl Try.func53 (by kernel_rfl) rfl #[.agg #[.slice A0_0 l0_0.length c0_0]] rfl (by (try simp only [List.map_toArray, List.map_cons, List.map_nil]); first | done | rfl | (simp only [List.length_drop, List.length_take]; rfl)) ?_; (with_reducible refine (spec_l2Words.calls k _ _ l0_0 t776 _ ?side1 ?side2 A4.out).mono ?_); (case side1 => repeat (first | exact (Kd.C_below HR0_0.out HB.out) | (with_reducible refine Kd.C_alloc ?_ _) | (with_reducible refine Kd.C_drewN ?_ _) | (with_reducible refine Kd.C_drew ?_))); (case side2 => exact HC0_0.out); rintro e w13 ⟨v777, rfl, ho0, hb⟩; refine ⟨_, rfl, ?_⟩; have n0_ := Aside0.mk (Kd.R_lower ho0 (below_size (by repeat (first | (with_reducible first | exact HB.out | apply below_alloc | apply pw_below_drewN | apply below_drew1 | refine below_set ?_ GE773.out | refine below_set ?_ GE774.out) | exact HB.out)))); have n1_ := Aside0.mk (blk_below (g := gb773) (o := .cells #[.slice A0_0 l0_0.length c0_0] 30 (0, 0)) (by (with_reducible repeat (first | refine blk_drewN ?_ _ | refine blk_drew ?_ | refine blk_alloc ?_ _)); exact BK773.out) hb); have n2_ := Aside0.mk (blk_below (g := gb774) (o := .cells #[.slice none 0 0] 30 (0, 0)) (by (with_reducible repeat (first | refine blk_drewN ?_ _ | refine blk_drew ?_ | refine blk_alloc ?_ _)); exact BK774.out) hb); have n3_ := Aside0.mk (below_step (by repeat (first | (with_reducible first | exact HB.out | apply below_alloc | apply pw_below_drewN | apply below_drew1 | refine below_set ?_ GE773.out | refine below_set ?_ GE774.out) | exact HB.out)) hb); clear BK773; clear BK774; clear HB; have HO778 := n0_; have BK773 := n1_; have BK774 := n2_; have HB := n3_; clear n0_ n1_ n2_ n3_; (try clear hb); (try clear hb2); (try clear hk); (try clear hi); (try clear ho0); obtain ⟨Ao14, co14, eo14⟩ := Kd.R_slice HO778.out; subst eo14) | ((with_reducible refine gate_callee (f := 66) rfl ?_); refine goesL_ (some 10) rfl rfl Try.func66 (by kernel_rfl) rfl #[.slice Ao14 t776.length co14, .bool false] rfl (by (try simp only [List.map_toArray, List.map_cons, List.map_nil]); first | done | rfl | (simp only [List.length_drop, List.length_take]; rfl)) ?_; (with_reducible refine (spec_l5First.calls k _ _ t776 false t779 _ ?side1 ?side2 A5.out).mono ?_); (case side1 => repeat (first | exact (Kd.R_reads' HO778.out).2.2 | (with_reducible refine Kd.C_alloc ?_ _) | (with_reducible refine Kd.C_drewN ?_ _) | (with_reducible refine Kd.C_drew ?_))); (case side2 => exact (Kd.R_reads' HO778.out).2.1); rintro e w15 ⟨v780, rfl, ho0, hb⟩; refine ⟨_, rfl, ?_⟩; have n0_ := Aside0.mk (Kd.R_elder' (by (with_reducible repeat (first | apply Kd.R_alloc | apply Kd.R_drewN | apply Kd.R_drew)); exact HO778.out) (Kd.R_base ho0) hb); have n1_ := Aside0.mk (Kd.R_lower (Kd.R_new' ho0 (Kd.R_lt (by (with_reducible repeat (first | apply Kd.R_alloc | apply Kd.R_drewN | apply Kd.R_drew)); exact HO778.out))) (below_size (by repeat (first | (with_reducible first | exact HB.out | apply below_alloc | apply pw_below_drewN | apply below_drew1 | refine below_set ?_ GE773.out | refine below_set ?_ GE774.out) | exact HB.out)))); have n2_ := Aside0.mk (blk_below (g := gb773) (o := .cells #[.slice A0_0 l0_0.length c0_0] 30 (0, 0)) (by (with_reducible repeat (first | refine blk_drewN ?_ _ | refine blk_drew ?_ | refine blk_alloc ?_ _)); exact BK773.out) hb); have n3_ := Aside0.mk (blk_below (g := gb774) (o := .cells #[.slice none 0 0] 30 (0, 0)) (by (with_reducible repeat (first | refine blk_drewN ?_ _ | refine blk_drew ?_ | refine blk_alloc ?_ _)); exact BK774.out) hb); have n4_ := Aside0.mk (below_step (by repeat (first | (with_reducible first | exact HB.out | apply below_alloc | apply pw_below_drewN | apply below_drew1 | refine below_set ?_ GE773.out | refine below_set ?_ GE774.out) | exact HB.out)) hb); clear HO778; clear BK773; clear BK774; clear HB; have HO778 := n0_; have HO781 := n1_; have BK773 := n2_; have BK774 := n3_; have HB := n4_; clear n0_ n1_ n2_ n3_ n4_; (try clear hb); (try clear hb2); (try clear hk); (try clear hi); (try clear ho0); obtain ⟨Ao16, co16, eo16⟩ := Kd.R_slice HO781.out; subst eo16) | ((with_reducible refine gate_callee (f := 71) rfl ?_); refine goesL_ (some 11) rfl rfl Try.func71 (by kernel_rfl) rfl #[.slice Ao16 t779.length co16] rfl (by (try simp only [List.map_toArray, List.map_cons, List.map_nil]); first | done | rfl | (simp only [List.length_drop, List.length_take]; rfl)) ?_; (with_reducible refine (spec_l5Made.calls k _ _ t779 t782 t785 _ ?side1 ?side2 A6.out).mono ?_); (case side1 => repeat (first | exact (Kd.R_reads' HO781.out).2.2 | (with_reducible refine Kd.C_alloc ?_ _) | (with_reducible refine Kd.C_drewN ?_ _) | (with_reducible refine Kd.C_drew ?_))); (case side2 => exact (Kd.R_reads' HO781.out).2.1); rintro e w17 ⟨v783, rfl, ho0, hb⟩; refine ⟨_, rfl, ?_⟩; have n0_ := Aside0.mk (Kd.R_below (by (with_reducible repeat (first | apply Kd.R_alloc | apply Kd.R_drewN | apply Kd.R_drew)); exact HO778.out) hb); have n1_ := Aside0.mk (Kd.R_below (by (with_reducible repeat (first | apply Kd.R_alloc | apply Kd.R_drewN | apply Kd.R_drew)); exact HO781.out) hb); have n2_ := Aside0.mk (Kd.R_lower ho0 (below_size (by repeat (first | (with_reducible first | exact HB.out | apply below_alloc | apply pw_below_drewN | apply below_drew1 | refine below_set ?_ GE773.out | refine below_set ?_ GE774.out) | exact HB.out)))); have n3_ := Aside0.mk (blk_below (g := gb773) (o := .cells #[.slice A0_0 l0_0.length c0_0] 30 (0, 0)) (by (with_reducible repeat (first | refine blk_drewN ?_ _ | refine blk_drew ?_ | refine blk_alloc ?_ _)); exact BK773.out) hb); have n4_ := Aside0.mk (blk_below (g := gb774) (o := .cells #[.slice none 0 0] 30 (0, 0)) (by (with_reducible repeat (first | refine blk_drewN ?_ _ | refine blk_drew ?_ | refine blk_alloc ?_ _)); exact BK774.out) hb); have n5_ := Aside0.mk (below_step (by repeat (first | (with_reducible first | exact HB.out | apply below_alloc | apply pw_below_drewN | apply below_drew1 | refine below_set ?_ GE773.out | refine below_set ?_ GE774.out) | exact HB.out)) hb); clear HO778; clear HO781; clear BK773; clear BK774; clear HB; have HO778 := n0_; have HO781 := n1_; have HO784 := n2_; have BK773 := n3_; have BK774 := n4_; have HB := n5_; clear n0_ n1_ n2_ n3_ n4_ n5_; (try clear hb); (try clear hb2); (try clear hk); (try clear hi); (try clear ho0); obtain ⟨Ao18, co18, eo18⟩ := Kd.R_slice HO784.out; subst eo18; have hcz19_0 : w17.cell? ⟨gb774, 0, none⟩ = some (.slice none 0 0) := (blk_cell BK774.out 0).trans rfl; have hfz19_0 := blk_frozen BK774.out 0))
    refine bodyPost_ret (results_ct rfl _ _ gb774 30 #[.slice Ao18 t782.length co18] (0, 0) _ rfl (by (with_reducible repeat (first | refine blk_drewN ?_ _ | refine blk_drew ?_ | refine blk_alloc ?_ _)); refine blk_put (cs := #[.slice none 0 0]) ?_ 0 _ rfl; (with_reducible repeat (first | refine blk_drewN ?_ _ | refine blk_drew ?_ | refine blk_alloc ?_ _)); exact BK774.out) Try.underlying30 rfl (by kernel_rfl)) rfl ?_
    exact ⟨_, by first | rfl | (simp [errW_none, errW_some] <;> rfl) | (simp [*, errW_none, errW_some] <;> rfl), by (with_reducible repeat (first | apply Kd.R_alloc | apply Kd.R_drewN | apply Kd.R_drew)); exact Kd.R_mono (R_same_ (Kd.R_far (p := ⟨gb774, 0, none⟩) (Kd.R_types HO784.out BK774.out (by decide)) (fun _ hk => hk.2) (.slice Ao18 t782.length co18)) rfl) (fun _ hk => trivial), by repeat (first | (with_reducible first | exact HB.out | apply below_alloc | apply pw_below_drewN | apply below_drew1 | refine below_set ?_ GE773.out | refine below_set ?_ GE774.out) | exact HB.out)⟩
  · replace c3 := Bool.eq_false_iff.mpr c3
    subst c3
    have H1 : (some (([] : List (S86)), false)) = some (r1, r2) := by rw [if_neg (show ¬ (false = true) by decide)] at H; exact H
    clear H
    have H := H1
    clear H1
    simp only [Option.some.injEq, Prod.mk.injEq] at H
    obtain ⟨rfl, rfl⟩ := H
    go_enter Try.func43, Try.ntmps43
    go_wp2_with (first | ((with_reducible refine gate_dst (N := 1) rfl ?_); refine box_event ?hg (N := 1) ?hd (cs := #[.slice A0_0 l0_0.length c0_0]) (t := 30) ?hr ?_; (case hd => rfl); (case hg => rfl); (case hr => first | (go_simp; done) | (go_simp; rfl)); intro gb773 hg w20 hbox hb; have n0_ := Aside0.mk (below_step (by repeat (first | (with_reducible first | exact HB.out | apply below_alloc | apply pw_below_drewN | apply below_drew1) | exact HB.out)) hb); have n1_ := Aside0.mk (hbox); have n2_ := Aside0.mk ((by rw [hg]; exact (below_size (by repeat (first | (with_reducible first | exact HB.out | apply below_alloc | apply pw_below_drewN | apply below_drew1) | exact HB.out))) : w.heap.size ≤ gb773)); have n3_ := Aside0.mk ((by rw [hg]; exact (below_size (by repeat (first | (with_reducible first | exact HB.out | apply below_alloc | apply pw_below_drewN | apply below_drew1) | exact HB.out))) : w.heap.size ≤ gb773)); clear HB; have HB := n0_; have BK773 := n1_; have GW773 := n2_; have GE773 := n3_; clear n0_ n1_ n2_ n3_; clear hb hbox hg) | ((with_reducible refine gate_dst (N := 2) rfl ?_); refine box_event ?hg (N := 2) ?hd (cs := #[.slice none 0 0]) (t := 30) ?hr ?_; (case hd => rfl); (case hg => rfl); (case hr => first | (go_simp; done) | (go_simp; rfl)); intro gb774 hg w21 hbox hb; have n0_ := Aside0.mk (blk_below (g := gb773) (o := .cells #[.slice A0_0 l0_0.length c0_0] 30 (0, 0)) (by (with_reducible repeat (first | refine blk_drewN ?_ _ | refine blk_drew ?_ | refine blk_alloc ?_ _)); exact BK773.out) hb); have n1_ := Aside0.mk (below_step (by repeat (first | (with_reducible first | exact HB.out | apply below_alloc | apply pw_below_drewN | apply below_drew1 | refine below_set ?_ GE773.out) | exact HB.out)) hb); have n2_ := Aside0.mk (hbox); have n3_ := Aside0.mk ((by rw [hg]; exact (below_size (by repeat (first | (with_reducible first | exact HB.out | apply below_alloc | apply pw_below_drewN | apply below_drew1 | refine below_set ?_ GE773.out) | exact HB.out))) : w.heap.size ≤ gb774)); have n4_ := Aside0.mk ((by rw [hg]; exact (below_size (by repeat (first | (with_reducible first | exact HB.out | apply below_alloc | apply pw_below_drewN | apply below_drew1 | refine below_set ?_ GE773.out) | exact HB.out))) : w.heap.size ≤ gb774)); have n5_ := Aside0.mk ((by rw [hg]; exact Nat.ne_of_lt (blk_lt (g := gb773) (o := .cells #[.slice A0_0 l0_0.length c0_0] 30 (0, 0)) (by (with_reducible repeat (first | refine blk_drewN ?_ _ | refine blk_drew ?_ | refine blk_alloc ?_ _)); exact BK773.out)) : gb773 ≠ gb774)); have n6_ := Aside0.mk ((by rw [hg]; exact Nat.ne_of_gt (blk_lt (g := gb773) (o := .cells #[.slice A0_0 l0_0.length c0_0] 30 (0, 0)) (by (with_reducible repeat (first | refine blk_drewN ?_ _ | refine blk_drew ?_ | refine blk_alloc ?_ _)); exact BK773.out)) : gb774 ≠ gb773)); clear BK773; clear HB; have BK773 := n0_; have HB := n1_; have BK774 := n2_; have GW774 := n3_; have GE774 := n4_; have NB773_774 := n5_; have NB774_773 := n6_; clear n0_ n1_ n2_ n3_ n4_ n5_ n6_; clear hb hbox hg; have hnb22 := NB773_774.out; have hnc22 := NB774_773.out; have hcz23_0 : w21.cell? ⟨gb773, 0, none⟩ = some (.slice A0_0 l0_0.length c0_0) := (blk_cell BK773.out 0).trans rfl; have hfz23_0 := blk_frozen BK773.out 0) | ((with_reducible refine gate_callee (f := 51) rfl ?_); refine goesL_ (some 5) rfl rfl Try.func51 (by kernel_rfl) rfl #[.agg #[.slice A0_0 l0_0.length c0_0]] rfl (by (try simp only [List.map_toArray, List.map_cons, List.map_nil]); first | done | rfl | (simp only [List.length_drop, List.length_take]; rfl)) ?_; (with_reducible refine (spec_l2Trie.calls k _ _ l0_0 false _ ?side1 ?side2 A2.out).mono ?_); (case side1 => repeat (first | exact (Kd.C_below HR0_0.out HB.out) | (with_reducible refine Kd.C_alloc ?_ _) | (with_reducible refine Kd.C_drewN ?_ _) | (with_reducible refine Kd.C_drew ?_))); (case side2 => exact HC0_0.out); rintro e w24 ⟨rfl, hb⟩; refine ⟨_, rfl, ?_⟩; have n0_ := Aside0.mk (blk_below (g := gb773) (o := .cells #[.slice A0_0 l0_0.length c0_0] 30 (0, 0)) (by (with_reducible repeat (first | refine blk_drewN ?_ _ | refine blk_drew ?_ | refine blk_alloc ?_ _)); exact BK773.out) hb); have n1_ := Aside0.mk (blk_below (g := gb774) (o := .cells #[.slice none 0 0] 30 (0, 0)) (by (with_reducible repeat (first | refine blk_drewN ?_ _ | refine blk_drew ?_ | refine blk_alloc ?_ _)); exact BK774.out) hb); have n2_ := Aside0.mk (below_step (by repeat (first | (with_reducible first | exact HB.out | apply below_alloc | apply pw_below_drewN | apply below_drew1 | refine below_set ?_ GE773.out | refine below_set ?_ GE774.out) | exact HB.out)) hb); clear BK773; clear BK774; clear HB; have BK773 := n0_; have BK774 := n1_; have HB := n2_; clear n0_ n1_ n2_; (try clear hb); (try clear hb2); (try clear hk); (try clear hi); have hcz25_0 : w24.cell? ⟨gb774, 0, none⟩ = some (.slice none 0 0) := (blk_cell BK774.out 0).trans rfl; have hfz25_0 := blk_frozen BK774.out 0))
    refine bodyPost_ret (results_ct rfl _ _ gb774 30 #[.slice none 0 0] (0, 0) _ rfl (by (with_reducible repeat (first | refine blk_drewN ?_ _ | refine blk_drew ?_ | refine blk_alloc ?_ _)); refine blk_put (cs := #[.slice none 0 0]) ?_ 0 _ rfl; (with_reducible repeat (first | refine blk_drewN ?_ _ | refine blk_drew ?_ | refine blk_alloc ?_ _)); exact BK774.out) Try.underlying30 rfl (by kernel_rfl)) rfl ?_
    exact ⟨_, by first | rfl | (simp [errW_none, errW_some] <;> rfl) | (simp [*, errW_none, errW_some] <;> rfl), by first | exact Kd.R_nil _ _ _ _ _ | exact Kd.N_nil _ _ _ _ _ | exact Kd.V_nil _ _ _ _ _ | exact Kd.Q_nil _ _ _ _ _ | exact Kd.S_nil _ _ _ _ _, by repeat (first | (with_reducible first | exact HB.out | apply below_alloc | apply pw_below_drewN | apply below_drew1 | refine below_set ?_ GE773.out | refine below_set ?_ GE774.out) | exact HB.out)⟩
end Go.Proofs.Ytbedgcngoddkdaa.Q
namespace Go.Proofs
open Go.Shelf
def Try.lDel_ren : Go.Shelf.Ren := ⟨fun | 10 => 105 | 6 => 97 | n => n, fun | 22 => 59 | 23 => 9 | 25 => 67 | 3 => 3 | 4 => 4 | 0 => 0 | n => n, fun | n => n⟩
theorem Try.lDel : Go.Proofs.SlLaysH.n10 Try.prog Try.lDel_ren := {
  mixed := by kernel_rfl
  f6 := ⟨Try.f97.name, by decide, Try.func97.trans (congrArg some (by kernel_rfl))⟩
  f10 := ⟨Try.f105.name, by decide, Try.func105.trans (congrArg some (by kernel_rfl))⟩
  t0 := Try.underlying0
  a0 := Try.isAgg0
  z0 := Try.sizeOf0
  v0 := Try.zeroValue0
  t3 := Try.underlying3
  a3 := Try.isAgg3
  z3 := Try.sizeOf3
  v3 := Try.zeroValue3
  t4 := Try.underlying4
  a4 := Try.isAgg4
  z4 := Try.sizeOf4
  v4 := Try.zeroValue4
  t22 := Try.underlying59
  a22 := Try.isAgg59
  z22 := Try.sizeOf59
  v22 := Try.zeroValue59
  a23 := Try.isAgg9
  z23 := Try.sizeOf9
  t25 := Try.underlying67
  a25 := Try.isAgg67
  z25 := Try.sizeOf67
  v25 := Try.zeroValue67 }
def Try.lIdx_ren : Go.Shelf.Ren := ⟨fun | 6 => 97 | n => n, fun | 22 => 59 | 23 => 9 | 25 => 67 | 3 => 3 | 0 => 0 | 4 => 4 | n => n, fun | n => n⟩
theorem Try.lIdx : Go.Proofs.SlLaysH.n6 Try.prog Try.lIdx_ren := {
  mixed := by kernel_rfl
  f6 := ⟨Try.f97.name, by decide, Try.func97.trans (congrArg some (by kernel_rfl))⟩
  t0 := Try.underlying0
  a0 := Try.isAgg0
  z0 := Try.sizeOf0
  v0 := Try.zeroValue0
  t3 := Try.underlying3
  a3 := Try.isAgg3
  z3 := Try.sizeOf3
  v3 := Try.zeroValue3
  t4 := Try.underlying4
  a4 := Try.isAgg4
  z4 := Try.sizeOf4
  v4 := Try.zeroValue4
  t22 := Try.underlying59
  a22 := Try.isAgg59
  z22 := Try.sizeOf59
  v22 := Try.zeroValue59
  a23 := Try.isAgg9
  z23 := Try.sizeOf9
  t25 := Try.underlying67
  a25 := Try.isAgg67
  z25 := Try.sizeOf67
  v25 := Try.zeroValue67 }
end Go.Proofs
namespace Go.Proofs.Ytbedgcngoddkdaa.Q
open Go.RowKit Go.Sort Go.Shelf Go.Proofs.YtbedgcngoddkdaaW.PrintWords Go.Proofs.YtbedgcngoddkdaaW.PrintLast Go.Proofs.YtbedgcngoddkdaaW.PrintMore
set_option linter.unusedVariables false
theorem under1_gives (p x : ByteArray) (B : Nat) (W : World) (hc : W.cell? ⟨B, 0, none⟩ = some (.string p)) :
    FnGives Try.prog 107 #[.pointer (some ⟨B, 0, none⟩)] #[.string x] (.bool (!begW x p)) W := by
  show Calls Try.prog 107 #[.string x, .pointer (some ⟨B, 0, none⟩)] W _
  by_cases h1 : p.size ≤ x.size
  · by_cases h2 : (x.extract 0 p.size).toList = p.toList
    · have hb : begW x p = true := by simp [begW, h1, h2]
      have HB := Aside0.mk hb
      clear hb
      go_enter Try.func107, Try.ntmps107
      go_wp2
      go_ret
      exact ⟨by rw [HB.out]; rfl, 0, rfl⟩
    · have hb : begW x p = false := by simp [begW, h1, h2]
      have HB := Aside0.mk hb
      clear hb
      have h2b : ((x.extract 0 p.size).toList == p.toList) = false := beq_eq_false_iff_ne.mpr h2
      clear h2
      go_enter Try.func107, Try.ntmps107
      go_wp2
      go_ret
      exact ⟨by rw [HB.out]; rfl, 0, rfl⟩
  · have hb : begW x p = false := by simp [begW, h1]
    have HB := Aside0.mk hb
    clear hb
    have h1b : decide (p.size ≤ x.size) = false := decide_eq_false h1
    clear h1
    go_enter Try.func107, Try.ntmps107
    go_wp2
    go_ret
    exact ⟨by rw [HB.out]; rfl, 0, rfl⟩
theorem under1_pred (p : ByteArray) (B : Nat) (w : World) (hB : B < w.heap.size) (hc : w.cell? ⟨B, 0, none⟩ = some (.string p)) :
    PredAt Try.prog 107 #[.pointer (some ⟨B, 0, none⟩)] Value.string (fun x => !begW x p) w :=
  fun W x hb => under1_gives p x B W ((hb.cell (p := ⟨B, 0, none⟩) hB).trans hc)
theorem under1_over (p : ByteArray) (B blk off size : Nat) (w : World) (hB : B < w.heap.size) (hne : B ≠ blk) (hc : w.cell? ⟨B, 0, none⟩ = some (.string p)) :
    PredOver Try.prog 107 #[.pointer (some ⟨B, 0, none⟩)] Value.string (fun x => !begW x p) blk off size w :=
  fun n os dk x _ => under1_gives p x B _ (by
    unfold sortWorld
    rw [cell?_grow _ _ _ (by show B < (putRow _ _ _ _ _).heap.size; rw [size_putRow]; exact hB), cell?_putRow_other _ _ blk off _ _ (Or.inl hne)]
    exact hc)
theorem del_nil (fv : Value) (w : World) : Calls Try.prog 105 #[.slice none 0 0, fv] w fun e w' => e = .returned (.slice none 0 0) ∧ w' = w := by
  have hi := AnyE.slices_IndexFunc_empty Try.lIdx none 0 fv w
  change Calls Try.prog 97 _ _ _ at hi
  go_enter Try.func105, Try.ntmps105
  go_wp2_with (go_at_call 97; refine hi.mono ?_; rintro e w' ⟨rfl, rfl⟩)
  go_ret
  exact ⟨rfl, rfl⟩
theorem del_under (p : ByteArray) (B base : Nat) (v : Value) (xs : List ByteArray) (w : World) (hB : B < base) (hbs : base ≤ w.heap.size) (hc : w.cell? ⟨B, 0, none⟩ = some (.string p)) (hR : Kd.R Kd.string 9 w base (fun _ => True) v xs) :
    Calls Try.prog 105 #[v, .func (.func 107) #[] #[.pointer (some ⟨B, 0, none⟩)]] w fun e w' => ∃ v' : Value, e = .returned v' ∧ Kd.R Kd.string 9 w' base (fun _ => True) v' (xs.filter fun x => begW x p) ∧ Below base w w' := by
  have hown := owns_of_R hR
  have eg : ∀ args w, (callFunc 107 args).run Try.prog w = .ok (.enter 107 args) w := enters_of Try.func107 (by kernel_rfl) rfl
  by_cases hv : v = .slice none 0 0
  · subst hv
    have hx : xs = [] := by
      have := (Kd.R_reads' hR).1
      exact List.eq_nil_of_length_eq_zero this.symm
    subst hx
    refine (del_nil _ w).mono ?_
    rintro e w' ⟨rfl, rfl⟩
    exact ⟨_, rfl, Kd.R_nil _ _ _ _ _, Below.refl _ _⟩
  · obtain ⟨g, cap, rfl, hbg, hgl, hncap, hcm, hlen, hH⟩ := Lib.holds_of_ownsRow hown hv
    have hcon := AnyE.slices_DeleteFunc Try.lDel Value.string (fun _ => rfl) (fun x => !begW x p) 107 #[.pointer (some ⟨B, 0, none⟩)] eg ByteArray.empty (fun w => by kernel_rfl) g 0 cap xs.toArray w
      (under1_pred p B w (by omega) hc) (under1_over p B g 0 _ w (by omega) (by omega) hc) hH (by simp; unfold maxLen at hcm; omega) (by simpa using hncap)
    simp only [List.size_toArray, Bool.not_not] at hcon
    refine hcon.mono ?_
    rintro e w' ⟨rfl, q, rfl⟩
    have hle := List.length_filter_le (fun x => begW x p) xs
    have hc2 := Lib.ownsRow_putRow (q := q) (k := (xs.filter fun x => begW x p).length) (ys := (xs.filter fun x => begW x p) ++ List.replicate (xs.length - (xs.filter fun x => begW x p).length) ByteArray.empty) hown (by simp; omega) hle
    rw [List.take_left] at hc2
    exact ⟨_, rfl, R_of_owns hc2 (fun _ _ => trivial), Lib.below_putRow (Below.refl _ _) hbg⟩
theorem below_sz {w w2 : World} {o1 o2 : Obj} (h : Below (w.heap.size + 1 + 1) ((w.alloc o1).alloc o2) w2) : w.heap.size + 1 + 1 ≤ w2.heap.size := by simpa using h.size
theorem below_cell {w w2 : World} {o1 o2 : Obj} {v : Value} {t : Nat} (h : Below (w.heap.size + 1 + 1) ((w.alloc o1).alloc o2) w2) (hc : ((w.alloc o1).alloc o2).heap[w.heap.size + 1]? = some (.cells #[v] t (0, 0))) : w2.cell? ⟨w.heap.size + 1, 0, none⟩ = some v := by
  have := (h.block (w.heap.size + 1) (by omega)).trans hc
  simp [World.cell?, this]
def impl_Trie_under.f (k : Nat) (l0_0 : List S86) (a1 : ByteArray) : Option (List ByteArray) :=
  (impl_Trie_words.f k l0_0).bind fun t1 => some (t1.filter fun w => begW w a1)
set_option maxHeartbeats 1000000 in
theorem impl_Trie_under.calls (k : Nat) (A0_0 : Option Addr) (c0_0 : Nat) (l0_0 : List (S86)) (a1 : ByteArray) (r : List ByteArray) (w : World) (hr0_0 : Kd.C k86 w A0_0 l0_0.length l0_0) (hc0_0 : l0_0.length ≤ c0_0) (h : impl_Trie_under.f k l0_0 a1 = some r) :
    Calls Try.prog 77 #[.agg #[.slice A0_0 l0_0.length c0_0], .string a1] w fun e w' => ∃ v0_ : Value, e = .returned (v0_) ∧ Kd.R Kd.string 9 w' w.heap.size (fun _ => True) v0_ r ∧ Below w.heap.size w w' := by
  unfold impl_Trie_under.f at h
  obtain ⟨ws, hws, h⟩ := Option.bind_eq_some_iff.mp h
  obtain rfl := Option.some.inj h
  clear h
  have HW := Aside0.mk hws
  have HR := Aside0.mk hr0_0
  have HC := Aside0.mk hc0_0
  clear hws hr0_0 hc0_0
  have hB0 : Below w.heap.size w ((w.alloc (.cells #[.slice A0_0 l0_0.length c0_0] 30)).alloc (.cells #[.string a1] 9)) := ((Below.refl _ w).alloc (Nat.le_refl _) _).alloc (by simp) _
  have hwd := impl_Trie_words.calls k A0_0 c0_0 l0_0 ws ((w.alloc (.cells #[.slice A0_0 l0_0.length c0_0] 30)).alloc (.cells #[.string a1] 9)) (Kd.C_below HR.out hB0) HC.out HW.out
  have hpc : ((w.alloc (.cells #[.slice A0_0 l0_0.length c0_0] 30)).alloc (.cells #[.string a1] 9)).heap[w.heap.size + 1]? = some (.cells #[.string a1] 9 (0, 0)) := by
    have := Go.heap_alloc_new (w.alloc (.cells #[.slice A0_0 l0_0.length c0_0] 30)) (.cells #[.string a1] 9)
    rwa [World.size_alloc] at this
  simp only [World.size_alloc] at hwd
  have HWD := Aside0.mk hwd
  have HPC := Aside0.mk hpc
  have HB0 := Aside0.mk hB0
  clear hwd hpc hB0
  go_enter Try.func77, Try.ntmps77
  go_wp2_with (first
    | (go_at_call 57; refine HWD.out.mono ?_; rintro e w2 ⟨v, rfl, hr, hb⟩; have HRV := Aside0.mk hr; have HB2 := Aside0.mk hb; clear hr hb)
    | (go_at_call 105; refine (del_under a1 (w.heap.size + 1) (w.heap.size + 1 + 1) v ws _ (by omega) (below_sz HB2.out) (below_cell HB2.out HPC.out) HRV.out).mono ?_; rintro e w3 ⟨v', rfl, hr3, hb3⟩; have HR3 := Aside0.mk hr3; have HB3 := Aside0.mk hb3; clear hr3 hb3))
  go_ret
  exact ⟨_, rfl, Kd.R_lower HR3.out (by omega), HB0.out.trans ((HB2.out.trans HB3.out).mono (by omega))⟩
end Go.Proofs.Ytbedgcngoddkdaa.Q
namespace Go.Proofs.Ytbedgcngoddkdaa.Q
open Go.RowKit Go.Sort Go.Shelf Go.Proofs.YtbedgcngoddkdaaW.PrintWords Go.Proofs.YtbedgcngoddkdaaW.PrintLast Go.Proofs.YtbedgcngoddkdaaW.PrintMore
set_option linter.unusedVariables false
def lasX (wa : List ByteArray) (x : ByteArray) : Bool := decide (((wa.filter fun w => begW w x).length : Int) = 1)
set_option maxHeartbeats 1000000 in
theorem last1_tells {wa : List ByteArray} (hv : VW wa) (A : Option Addr) (c B base : Nat) (w : World) (hc : (trieW wa).length ≤ c) (hB : B < base) (hbox : w.heap[B]? = some (.cells #[.slice A (trieW wa).length c] 30 (0, 0))) (hC : ∀ W, Below base w W → Kd.C k86 W A (trieW wa).length (trieW wa)) :
    Tells 76 #[] #[.pointer (some ⟨B, 0, none⟩)] (lasX wa) base w := by
  intro x W hW
  have hcell : W.cell? ⟨B, 0, none⟩ = some (.slice A (trieW wa).length c) := box_at ((hW.block B hB).trans hbox)
  have hev : Ev (fun k => impl_Trie_under.f k (trieW wa) x) (wa.filter fun w => begW w x) := by
    unfold impl_Trie_under.f
    exact Ev.bind (implWords hv) (Ev.pure _)
  obtain ⟨k, hk⟩ := hev.ex
  have HH := Aside0.mk (impl_Trie_under.calls k A c (trieW wa) x _ W (hC W hW) hc hk)
  obtain ⟨n, hn⟩ : ∃ n, n = (wa.filter fun w => begW w x).length := ⟨_, rfl⟩
  have HN := Aside0.mk hn
  clear hbox hC hW hev hk hn
  show Calls Try.prog 76 #[.string x, .pointer (some ⟨B, 0, none⟩)] W _
  go_enter Try.func76, Try.ntmps76
  go_wp2_with (go_at_call 77; refine HH.out.mono ?_; rintro e w' ⟨v, rfl, hr, hb⟩; obtain ⟨A3, c3, rfl⟩ := Kd.R_slice hr; rw [← HN.out]; have HB := Aside0.mk hb; clear hb hr)
  go_ret
  exact ⟨by unfold lasX; rw [← HN.out]; simp; rw [Bool.eq_iff_iff]; simp, HB.out⟩
theorem impl_LastWords_enters1 : Enters 76 := enters_of Try.func76 (by kernel_rfl) rfl
def impl_LastWords.f (l0_0 : List IN) : Option (List IN × Bool) := some (if isTrieW l0_0 then (trieW ((wordsV l0_0).filter (lasX (wordsV l0_0))), true) else ([], false))
set_option maxHeartbeats 2000000 in
theorem impl_LastWords.calls (A0_0 : Option Addr) (c0_0 : Nat) (l0_0 : List IN) (r1 : List IN) (r2 : Bool) (w : World) (hr0_0 : Kd.C k86 w A0_0 l0_0.length l0_0) (hc0_0 : l0_0.length ≤ c0_0) (h : impl_LastWords.f l0_0 = some (r1, r2)) :
    Calls Try.prog 44 #[.agg #[.slice A0_0 l0_0.length c0_0]] w fun e w' => ∃ v0_ : Value, e = .returned (.tuple #[.agg #[v0_], .bool r2]) ∧ Kd.R k86 86 w' w.heap.size (fun _ => True) v0_ r1 ∧ Below w.heap.size w w' := by
  unfold impl_LastWords.f at h
  have HB0 := Aside0.mk (((Below.refl w.heap.size w).alloc (Nat.le_refl _) (.cells #[.slice A0_0 l0_0.length c0_0] 30)).alloc (by simp) (.cells #[.slice none 0 0] 30))
  have HX := Aside0.mk (box_two w (.slice A0_0 l0_0.length c0_0) (.slice none 0 0) 30 30)
  have HR0 := Aside0.mk hr0_0
  have HC0 := Aside0.mk hc0_0
  obtain ⟨k0, hk0⟩ := (isTrie_ev l0_0).ex
  have HK0 := Aside0.mk hk0
  clear hr0_0 hc0_0 hk0
  rcases trie_split l0_0 with ht0 | ⟨wa, hva, rfl, ht0, hwa⟩
  · rw [ht0] at h HK0
    injection h with h
    injection h with h1 h2
    subst h1; subst h2
    clear ht0
    go_enter Try.func44, Try.ntmps44
    go_wp2_with (go_at_call 55; refine (impl_isTrie.calls k0 A0_0 c0_0 l0_0 false _ (Kd.C_below HR0.out HB0.out) HC0.out HK0.out).mono ?_; rintro e w1 ⟨rfl, hb⟩; have HQ1 := Aside0.mk (show Below (w.heap.size + 1 + 1) _ w1 by simpa using hb); have hx := (HX.out w1 HQ1.out).2; have hxc := box_at hx; have hxf := box_frozen hx; have HXX := Aside0.mk hx; clear hb hx)
    have hfin := blk_put HXX.out 0 (.slice none 0 0) rfl
    refine bodyPost_ret (results_ct rfl _ _ (w.heap.size + 1) 30 #[.slice none 0 0] (0, 0) _ rfl hfin Try.underlying30 rfl (by kernel_rfl)) rfl ?_
    exact ⟨_, rfl, Kd.R_nil _ _ _ _ _, (HB0.out.trans (HQ1.out.mono (by omega))).setCell (by simp) _⟩
  · rw [ht0, hwa] at h
    rw [ht0] at HK0
    injection h with h
    injection h with h1 h2
    subst h1; subst h2
    have HVA := Aside0.mk hva
    clear ht0 hwa hva
    go_enter Try.func44, Try.ntmps44
    go_wp2_with (first
      | (go_at_call 55; refine (impl_isTrie.calls k0 A0_0 c0_0 _ true _ (Kd.C_below HR0.out HB0.out) HC0.out HK0.out).mono ?_; rintro e w1 ⟨rfl, hb⟩; have HQ1 := Aside0.mk (show Below (w.heap.size + 1 + 1) _ w1 by simpa using hb); have hx1 := box_at (HX.out w1 HQ1.out).1; clear hb)
      | (go_at_call 72; refine (chosen_gen 76 #[] #[.pointer (some ⟨w.heap.size, 0, none⟩)] (lasX wa) impl_LastWords_enters1 HVA.out A0_0 c0_0 w1 (Kd.C_below HR0.out (HB0.out.trans (HQ1.out.mono (by omega)))) HC0.out (last1_tells HVA.out A0_0 c0_0 w.heap.size w1.heap.size w1 HC0.out (by have := bsz2 HQ1.out; omega) (HX.out w1 HQ1.out).1 (fun W hW => Kd.C_below HR0.out (HB0.out.trans ((HQ1.out.mono (by omega)).trans (hW.mono (by have := bsz2 HQ1.out; omega))))))).mono ?_; rintro e w2 ⟨v2, rfl, hr, hb⟩; obtain ⟨A2, c2, rfl⟩ := Kd.R_slice hr; have HQ2 := Aside0.mk (HQ1.out.trans (hb.mono (bsz2 HQ1.out))); have hx := (HX.out w2 HQ2.out).2; have hxc := box_at hx; have hxf := box_frozen hx; have HXX := Aside0.mk hx; have HR2 := Aside0.mk (Kd.R_lower hr (bsz2 HQ1.out)); clear hr hb hx))
    have hfin := blk_put HXX.out 0 (.slice A2 (trieW (wa.filter (lasX wa))).length c2) rfl
    refine bodyPost_ret (results_ct rfl _ _ (w.heap.size + 1) 30 #[.slice A2 (trieW (wa.filter (lasX wa))).length c2] (0, 0) _ rfl hfin Try.underlying30 rfl (by kernel_rfl)) rfl ?_
    exact ⟨_, rfl, Kd.R_lower (Kd.R_mono (Kd.R_move (Kd.R_bound HR2.out) (fun g hg => Below.heap_setCell _ _ _ _ (by have := hg.2.1; simp; omega))) (fun _ hg => trivial)) (by omega), (HB0.out.trans (HQ2.out.mono (by omega))).setCell (by simp) _⟩
end Go.Proofs.Ytbedgcngoddkdaa.Q
namespace Go.Proofs.Ytbedgcngoddkdaa.Q
open Go.RowKit Go.Proofs.YtbedgcngoddkdaaW.PrintWords Go.Proofs.YtbedgcngoddkdaaW.PrintLast Go.Proofs.YtbedgcngoddkdaaW.PrintMore
attribute [local go_sem] run_field_23 run_field_24 run_field_29 run_field_30 run_field_51 run_field_52 isSome_setCell max2_int min2_int max_two min_two max_three min_three max_four min_four   -- for this text's walks alone
set_option linter.unusedVariables false
set_option linter.unusedSimpArgs false
mutual
def laws_FnExactLastWords.j0 : Nat → Bool → Bool → Bool → List (S89) → List (S86) → List (S86) → List (S86) → Option (Bool)
  | 0, _, _, _, _, _, _, _ => none
  | k + 1, x5, x8, x40, x787000, x796000, x800000, x805000 => if x40 = true then (some false) else ((laws_toTrie.f k x787000).bind fun t806 => ((laws_eqTrie.f k x800000 t806).bind fun t809 => (if t809 = true then ((laws_markTrie.f k x800000 1).bind fun bt810 => (if bt810.1 < 0 then (laws_FnExactLastWords.j1 k x5 true x787000 x796000 x805000) else ((laws_eqTrie.f k x805000 x796000).bind fun t812 => (if t812 = true then (laws_FnExactLastWords.j1 k x5 (x8 != x5) x787000 x796000 x805000) else (laws_FnExactLastWords.j1 k x5 true x787000 x796000 x805000))))) else (some false))))
def laws_FnExactLastWords.j1 : Nat → Bool → Bool → List (S89) → List (S86) → List (S86) → Option (Bool)
  | 0, _, _, _, _, _ => none
  | k + 1, x5, x61, x787000, x796000, x805000 => if x61 = true then (some false) else ((laws_markTrie.f k x805000 1).bind fun bt813 => ((laws_heldTrie.f k bt813.2 1).bind fun t815 => (if t815 < 0 then (some false) else (if t815 = bt813.1 then ((laws_toTrie.f k x787000).bind fun t816 => ((impl_LastWords.f t816).bind fun bt819 => ((laws_eqTrie.f k bt819.1 x796000).bind fun t824 => (if t824 = true then (laws_FnExactLastWords.j2 k bt813.1 (bt819.2 != x5) bt813.2) else (laws_FnExactLastWords.j2 k bt813.1 true bt813.2))))) else (some false)))))
def laws_FnExactLastWords.j2 : Nat → Int → Bool → List (S86) → Option (Bool)
  | 0, _, _, _ => none
  | k + 1, x10, x87, x805000 => if x87 = true then (some false) else ((laws_heldTrie.f k x805000 1).bind fun t825 => (if t825 < 0 then (some false) else (if t825 = x10 then (some true) else (some false))))
end
def laws_FnExactLastWords.f (k : Nat) (l0_0 : List (S89)) : Option (Bool) := (laws_szTrie.f l0_0 1048576).bind fun t787 => (if t787 < 0 then (some true) else ((laws_toTrie.f k l0_0).bind fun t788 => ((spec_LastWords.f k t788).bind fun bt791 => ((laws_toTrie.f k l0_0).bind fun t796 => ((impl_LastWords.f t796).bind fun bt800 => ((laws_eqTrie.f k bt800.1 bt791.1).bind fun t805 => (if t805 = true then (laws_FnExactLastWords.j0 k bt791.2 bt800.2 (bt800.2 != bt791.2) l0_0 bt791.1 t796 bt800.1) else (laws_FnExactLastWords.j0 k bt791.2 bt800.2 true l0_0 bt791.1 t796 bt800.1))))))))
set_option maxHeartbeats 8000000 in
set_option maxRecDepth 100000 in
theorem laws_FnExactLastWords.calls (k : Nat) (A0_0 : Option Addr) (c0_0 : Nat) (l0_0 : List (S89)) (r : Bool) (w : World) (hr0_0 : Kd.C k89 w A0_0 l0_0.length l0_0) (hc0_0 : l0_0.length ≤ c0_0) (h : laws_FnExactLastWords.f k l0_0 = some r) :
    Calls Try.prog 13 #[.agg #[.slice A0_0 l0_0.length c0_0]] w fun e w' => e = .returned (.bool r) ∧ Below w.heap.size w w' := by
  have hu24 := Try.underlying24
  have hu30 := Try.underlying30
  have HR0_0 := Aside0.mk hr0_0
  have HC0_0 := Aside0.mk hc0_0
  clear hr0_0 hc0_0
  have HB := Aside0.mk (Below.refl w.heap.size w)
  have H : ((laws_szTrie.f l0_0 1048576).bind fun t787 => (if t787 < 0 then (some true) else ((laws_toTrie.f k l0_0).bind fun t788 => ((spec_LastWords.f k t788).bind fun bt791 => ((laws_toTrie.f k l0_0).bind fun t796 => ((impl_LastWords.f t796).bind fun bt800 => ((laws_eqTrie.f k bt800.1 bt791.1).bind fun t805 => (if t805 = true then (laws_FnExactLastWords.j0 k bt791.2 bt800.2 (bt800.2 != bt791.2) l0_0 bt791.1 t796 bt800.1) else (laws_FnExactLastWords.j0 k bt791.2 bt800.2 true l0_0 bt791.1 t796 bt800.1))))))))) = some r := h
  clear h
  replace H := Option.bind_eq_some_iff.mp H
  obtain ⟨t787, A20, H⟩ := H
  replace H : (if t787 < 0 then (some true) else ((laws_toTrie.f k l0_0).bind fun t788 => ((spec_LastWords.f k t788).bind fun bt791 => ((laws_toTrie.f k l0_0).bind fun t796 => ((impl_LastWords.f t796).bind fun bt800 => ((laws_eqTrie.f k bt800.1 bt791.1).bind fun t805 => (if t805 = true then (laws_FnExactLastWords.j0 k bt791.2 bt800.2 (bt800.2 != bt791.2) l0_0 bt791.1 t796 bt800.1) else (laws_FnExactLastWords.j0 k bt791.2 bt800.2 true l0_0 bt791.1 t796 bt800.1)))))))) = some r := H
  have A2 := Aside0.mk A20
  clear A20
  by_cases c3 : t787 < 0
  · rw [if_pos c3] at H
    have c3b0 : decide (t787 < 0) = true := decide_eq_true c3
    clear c3
    obtain rfl := Option.some.inj H
    go_enter Try.func13, Try.ntmps13
    go_wp2_with (first | ((with_reducible refine gate_dst (N := 1) rfl ?_); refine box_event ?hg (N := 1) ?hd (cs := #[.slice A0_0 l0_0.length c0_0]) (t := 24) ?hr ?_; (case hd => rfl); (case hg => rfl); (case hr => first | (go_simp; done) | (go_simp; rfl)); intro gb786 hg w4 hbox hb; have n0_ := Aside0.mk (below_step (by repeat (first | (with_reducible first | exact HB.out | apply below_alloc | apply pw_below_drewN | apply below_drew1) | exact HB.out)) hb); have n1_ := Aside0.mk (hbox); have n2_ := Aside0.mk ((by rw [hg]; exact (below_size (by repeat (first | (with_reducible first | exact HB.out | apply below_alloc | apply pw_below_drewN | apply below_drew1) | exact HB.out))) : w.heap.size ≤ gb786)); have n3_ := Aside0.mk ((by rw [hg]; exact (below_size (by repeat (first | (with_reducible first | exact HB.out | apply below_alloc | apply pw_below_drewN | apply below_drew1) | exact HB.out))) : w.heap.size ≤ gb786)); clear HB; have HB := n0_; have BK786 := n1_; have GW786 := n2_; have GE786 := n3_; clear n0_ n1_ n2_ n3_; clear hb hbox hg; have hcz5_0 : w4.cell? ⟨gb786, 0, none⟩ = some (.slice A0_0 l0_0.length c0_0) := (blk_cell BK786.out 0).trans rfl; have hfz5_0 := blk_frozen BK786.out 0) | ((with_reducible refine gate_callee (f := 15) rfl ?_); refine goesL_ (some 16) rfl rfl Try.func15 (by kernel_rfl) rfl #[.agg #[.slice A0_0 l0_0.length c0_0], .int .i64 1048576] rfl (by (try simp only [List.map_toArray, List.map_cons, List.map_nil]); first | done | rfl | (simp only [List.length_drop, List.length_take]; rfl)) ?_; (with_reducible refine (laws_szTrie.calls _ _ l0_0 1048576 t787 _ ?side1 ?side2 A2.out).mono ?_); (case side1 => repeat (first | exact (Kd.C_below HR0_0.out HB.out) | (with_reducible refine Kd.C_alloc ?_ _) | (with_reducible refine Kd.C_drewN ?_ _) | (with_reducible refine Kd.C_drew ?_))); (case side2 => exact HC0_0.out); rintro e w6 ⟨rfl, hb⟩; refine ⟨_, rfl, ?_⟩; have n0_ := Aside0.mk (blk_below (g := gb786) (o := .cells #[.slice A0_0 l0_0.length c0_0] 24 (0, 0)) (by (with_reducible repeat (first | refine blk_drewN ?_ _ | refine blk_drew ?_ | refine blk_alloc ?_ _)); exact BK786.out) hb); have n1_ := Aside0.mk (below_step (by repeat (first | (with_reducible first | exact HB.out | apply below_alloc | apply pw_below_drewN | apply below_drew1 | refine below_set ?_ GE786.out) | exact HB.out)) hb); clear BK786; clear HB; have BK786 := n0_; have HB := n1_; clear n0_ n1_; (try clear hb); (try clear hb2); (try clear hk); (try clear hi)))
    go_ret
    exact ⟨by first | rfl | (simp [errW_none, errW_some] <;> rfl) | (simp [*, errW_none, errW_some] <;> rfl), by repeat (first | (with_reducible first | exact HB.out | apply below_alloc | apply pw_below_drewN | apply below_drew1 | refine below_set ?_ GE786.out) | exact HB.out)⟩
  · rw [if_neg c3] at H
    have c3b0 : decide (t787 < 0) = false := decide_eq_false c3
    clear c3
    replace H := Option.bind_eq_some_iff.mp H
    obtain ⟨t788, A70, H⟩ := H
    replace H : ((spec_LastWords.f k t788).bind fun bt791 => ((laws_toTrie.f k l0_0).bind fun t796 => ((impl_LastWords.f t796).bind fun bt800 => ((laws_eqTrie.f k bt800.1 bt791.1).bind fun t805 => (if t805 = true then (laws_FnExactLastWords.j0 k bt791.2 bt800.2 (bt800.2 != bt791.2) l0_0 bt791.1 t796 bt800.1) else (laws_FnExactLastWords.j0 k bt791.2 bt800.2 true l0_0 bt791.1 t796 bt800.1)))))) = some r := H
    have A7 := Aside0.mk A70
    clear A70
    replace H := Option.bind_eq_some_iff.mp H
    obtain ⟨⟨t791, t794⟩, A80, H⟩ := H
    replace H : ((laws_toTrie.f k l0_0).bind fun t796 => ((impl_LastWords.f t796).bind fun bt800 => ((laws_eqTrie.f k bt800.1 t791).bind fun t805 => (if t805 = true then (laws_FnExactLastWords.j0 k t794 bt800.2 (bt800.2 != t794) l0_0 t791 t796 bt800.1) else (laws_FnExactLastWords.j0 k t794 bt800.2 true l0_0 t791 t796 bt800.1))))) = some r := H
    have A8 := Aside0.mk A80
    clear A80
    replace H := Option.bind_eq_some_iff.mp H
    obtain ⟨t796, A90, H⟩ := H
    replace H : ((impl_LastWords.f t796).bind fun bt800 => ((laws_eqTrie.f k bt800.1 t791).bind fun t805 => (if t805 = true then (laws_FnExactLastWords.j0 k t794 bt800.2 (bt800.2 != t794) l0_0 t791 t796 bt800.1) else (laws_FnExactLastWords.j0 k t794 bt800.2 true l0_0 t791 t796 bt800.1)))) = some r := H
    have A9 := Aside0.mk A90
    clear A90
    replace H := Option.bind_eq_some_iff.mp H
    obtain ⟨⟨t800, t803⟩, A100, H⟩ := H
    replace H : ((laws_eqTrie.f k t800 t791).bind fun t805 => (if t805 = true then (laws_FnExactLastWords.j0 k t794 t803 (t803 != t794) l0_0 t791 t796 t800) else (laws_FnExactLastWords.j0 k t794 t803 true l0_0 t791 t796 t800))) = some r := H
    have A10 := Aside0.mk A100
    clear A100
    have HC11 := Aside0.mk H
    clear H
    go_enter Try.func13, Try.ntmps13
    go_upto_region 8 with (first | ((with_reducible refine gate_dst (N := 1) rfl ?_); refine box_event ?hg (N := 1) ?hd (cs := #[.slice A0_0 l0_0.length c0_0]) (t := 24) ?hr ?_; (case hd => rfl); (case hg => rfl); (case hr => first | (go_simp; done) | (go_simp; rfl)); intro gb786 hg w12 hbox hb; have n0_ := Aside0.mk (below_step (by repeat (first | (with_reducible first | exact HB.out | apply below_alloc | apply pw_below_drewN | apply below_drew1) | exact HB.out)) hb); have n1_ := Aside0.mk (hbox); have n2_ := Aside0.mk ((by rw [hg]; exact (below_size (by repeat (first | (with_reducible first | exact HB.out | apply below_alloc | apply pw_below_drewN | apply below_drew1) | exact HB.out))) : w.heap.size ≤ gb786)); have n3_ := Aside0.mk ((by rw [hg]; exact (below_size (by repeat (first | (with_reducible first | exact HB.out | apply below_alloc | apply pw_below_drewN | apply below_drew1) | exact HB.out))) : w.heap.size ≤ gb786)); clear HB; have HB := n0_; have BK786 := n1_; have GW786 := n2_; have GE786 := n3_; clear n0_ n1_ n2_ n3_; clear hb hbox hg; have hcz13_0 : w12.cell? ⟨gb786, 0, none⟩ = some (.slice A0_0 l0_0.length c0_0) := (blk_cell BK786.out 0).trans rfl; have hfz13_0 := blk_frozen BK786.out 0) | ((with_reducible refine gate_callee (f := 15) rfl ?_); refine goesL_ (some 16) rfl rfl Try.func15 (by kernel_rfl) rfl #[.agg #[.slice A0_0 l0_0.length c0_0], .int .i64 1048576] rfl (by (try simp only [List.map_toArray, List.map_cons, List.map_nil]); first | done | rfl | (simp only [List.length_drop, List.length_take]; rfl)) ?_; (with_reducible refine (laws_szTrie.calls _ _ l0_0 1048576 t787 _ ?side1 ?side2 A2.out).mono ?_); (case side1 => repeat (first | exact (Kd.C_below HR0_0.out HB.out) | (with_reducible refine Kd.C_alloc ?_ _) | (with_reducible refine Kd.C_drewN ?_ _) | (with_reducible refine Kd.C_drew ?_))); (case side2 => exact HC0_0.out); rintro e w14 ⟨rfl, hb⟩; refine ⟨_, rfl, ?_⟩; have n0_ := Aside0.mk (blk_below (g := gb786) (o := .cells #[.slice A0_0 l0_0.length c0_0] 24 (0, 0)) (by (with_reducible repeat (first | refine blk_drewN ?_ _ | refine blk_drew ?_ | refine blk_alloc ?_ _)); exact BK786.out) hb); have n1_ := Aside0.mk (below_step (by repeat (first | (with_reducible first | exact HB.out | apply below_alloc | apply pw_below_drewN | apply below_drew1 | refine below_set ?_ GE786.out) | exact HB.out)) hb); clear BK786; clear HB; have BK786 := n0_; have HB := n1_; clear n0_ n1_; (try clear hb); (try clear hb2); (try clear hk); (try clear hi); have hcz15_0 : w14.cell? ⟨gb786, 0, none⟩ = some (.slice A0_0 l0_0.length c0_0) := (blk_cell BK786.out 0).trans rfl; have hfz15_0 := blk_frozen BK786.out 0) | ((with_reducible refine gate_callee (f := 17) rfl ?_); refine goesL_ (some 21) rfl rfl Try.func17 (by kernel_rfl) rfl #[.agg #[.slice A0_0 l0_0.length c0_0]] rfl (by (try simp only [List.map_toArray, List.map_cons, List.map_nil]); first | done | rfl | (simp only [List.length_drop, List.length_take]; rfl)) ?_; (with_reducible refine (laws_toTrie.calls k _ _ l0_0 t788 _ ?side1 ?side2 A7.out).mono ?_); (case side1 => repeat (first | exact (Kd.C_below HR0_0.out HB.out) | (with_reducible refine Kd.C_alloc ?_ _) | (with_reducible refine Kd.C_drewN ?_ _) | (with_reducible refine Kd.C_drew ?_))); (case side2 => exact HC0_0.out); rintro e w16 ⟨v789, rfl, ho0, hb⟩; refine ⟨_, rfl, ?_⟩; have n0_ := Aside0.mk (Kd.R_lower ho0 (below_size (by repeat (first | (with_reducible first | exact HB.out | apply below_alloc | apply pw_below_drewN | apply below_drew1 | refine below_set ?_ GE786.out) | exact HB.out)))); have n1_ := Aside0.mk (blk_below (g := gb786) (o := .cells #[.slice A0_0 l0_0.length c0_0] 24 (0, 0)) (by (with_reducible repeat (first | refine blk_drewN ?_ _ | refine blk_drew ?_ | refine blk_alloc ?_ _)); exact BK786.out) hb); have n2_ := Aside0.mk (below_step (by repeat (first | (with_reducible first | exact HB.out | apply below_alloc | apply pw_below_drewN | apply below_drew1 | refine below_set ?_ GE786.out) | exact HB.out)) hb); clear BK786; clear HB; have HO790 := n0_; have BK786 := n1_; have HB := n2_; clear n0_ n1_ n2_; (try clear hb); (try clear hb2); (try clear hk); (try clear hi); (try clear ho0); obtain ⟨Ao17, co17, eo17⟩ := Kd.R_slice HO790.out; subst eo17) | ((with_reducible refine gate_callee (f := 43) rfl ?_); refine goesL_ (some 22) rfl rfl Try.func43 (by kernel_rfl) rfl #[.agg #[.slice Ao17 t788.length co17]] rfl (by (try simp only [List.map_toArray, List.map_cons, List.map_nil]); first | done | rfl | (simp only [List.length_drop, List.length_take]; rfl)) ?_; (with_reducible refine (spec_LastWords.calls k _ _ t788 t791 t794 _ ?side1 ?side2 A8.out).mono ?_); (case side1 => repeat (first | exact (Kd.R_reads' HO790.out).2.2 | (with_reducible refine Kd.C_alloc ?_ _) | (with_reducible refine Kd.C_drewN ?_ _) | (with_reducible refine Kd.C_drew ?_))); (case side2 => exact (Kd.R_reads' HO790.out).2.1); rintro e w18 ⟨v792, rfl, ho0, hb⟩; refine ⟨_, rfl, ?_⟩; have n0_ := Aside0.mk (Kd.R_elder' (by (with_reducible repeat (first | apply Kd.R_alloc | apply Kd.R_drewN | apply Kd.R_drew)); exact HO790.out) (Kd.R_base ho0) hb); have n1_ := Aside0.mk (Kd.R_lower (Kd.R_new' ho0 (Kd.R_lt (by (with_reducible repeat (first | apply Kd.R_alloc | apply Kd.R_drewN | apply Kd.R_drew)); exact HO790.out))) (below_size (by repeat (first | (with_reducible first | exact HB.out | apply below_alloc | apply pw_below_drewN | apply below_drew1 | refine below_set ?_ GE786.out) | exact HB.out)))); have n2_ := Aside0.mk (blk_below (g := gb786) (o := .cells #[.slice A0_0 l0_0.length c0_0] 24 (0, 0)) (by (with_reducible repeat (first | refine blk_drewN ?_ _ | refine blk_drew ?_ | refine blk_alloc ?_ _)); exact BK786.out) hb); have n3_ := Aside0.mk (below_step (by repeat (first | (with_reducible first | exact HB.out | apply below_alloc | apply pw_below_drewN | apply below_drew1 | refine below_set ?_ GE786.out) | exact HB.out)) hb); clear HO790; clear BK786; clear HB; have HO790 := n0_; have HO793 := n1_; have BK786 := n2_; have HB := n3_; clear n0_ n1_ n2_ n3_; (try clear hb); (try clear hb2); (try clear hk); (try clear hi); (try clear ho0)) | ((with_reducible refine gate_dst (N := 4) rfl ?_); refine box_event ?hg (N := 4) ?hd (cs := #[.slice none 0 0]) (t := 30) ?hr ?_; (case hd => rfl); (case hg => rfl); (case hr => first | (go_simp; done) | (go_simp; rfl)); intro gb795 hg w19 hbox hb; have n0_ := Aside0.mk (Kd.R_below (by (with_reducible repeat (first | apply Kd.R_alloc | apply Kd.R_drewN | apply Kd.R_drew)); exact HO790.out) hb); have n1_ := Aside0.mk (Kd.R_below (by (with_reducible repeat (first | apply Kd.R_alloc | apply Kd.R_drewN | apply Kd.R_drew)); exact HO793.out) hb); have n2_ := Aside0.mk (blk_below (g := gb786) (o := .cells #[.slice A0_0 l0_0.length c0_0] 24 (0, 0)) (by (with_reducible repeat (first | refine blk_drewN ?_ _ | refine blk_drew ?_ | refine blk_alloc ?_ _)); exact BK786.out) hb); have n3_ := Aside0.mk (below_step (by repeat (first | (with_reducible first | exact HB.out | apply below_alloc | apply pw_below_drewN | apply below_drew1 | refine below_set ?_ GE786.out) | exact HB.out)) hb); have n4_ := Aside0.mk (hbox); have n5_ := Aside0.mk ((by rw [hg]; exact (below_size (by repeat (first | (with_reducible first | exact HB.out | apply below_alloc | apply pw_below_drewN | apply below_drew1 | refine below_set ?_ GE786.out) | exact HB.out))) : w.heap.size ≤ gb795)); have n6_ := Aside0.mk ((by rw [hg]; exact (below_size (by repeat (first | (with_reducible first | exact HB.out | apply below_alloc | apply pw_below_drewN | apply below_drew1 | refine below_set ?_ GE786.out) | exact HB.out))) : w.heap.size ≤ gb795)); have n7_ := Aside0.mk ((by rw [hg]; exact Nat.ne_of_lt (blk_lt (g := gb786) (o := .cells #[.slice A0_0 l0_0.length c0_0] 24 (0, 0)) (by (with_reducible repeat (first | refine blk_drewN ?_ _ | refine blk_drew ?_ | refine blk_alloc ?_ _)); exact BK786.out)) : gb786 ≠ gb795)); have n8_ := Aside0.mk ((by rw [hg]; exact Nat.ne_of_gt (blk_lt (g := gb786) (o := .cells #[.slice A0_0 l0_0.length c0_0] 24 (0, 0)) (by (with_reducible repeat (first | refine blk_drewN ?_ _ | refine blk_drew ?_ | refine blk_alloc ?_ _)); exact BK786.out)) : gb795 ≠ gb786)); clear HO790; clear HO793; clear BK786; clear HB; have HO790 := n0_; have HO793 := n1_; have BK786 := n2_; have HB := n3_; have BK795 := n4_; have GW795 := n5_; have GE795 := n6_; have NB786_795 := n7_; have NB795_786 := n8_; clear n0_ n1_ n2_ n3_ n4_ n5_ n6_ n7_ n8_; clear hb hbox hg; obtain ⟨Ao20, co20, eo20⟩ := Kd.R_slice HO793.out; subst eo20; have hnb21 := NB795_786.out; have hnc21 := NB786_795.out; have hcz22_0 : w19.cell? ⟨gb795, 0, none⟩ = some (.slice none 0 0) := (blk_cell BK795.out 0).trans rfl; have hfz22_0 := blk_frozen BK795.out 0; have hcz23_0 : w19.cell? ⟨gb786, 0, none⟩ = some (.slice A0_0 l0_0.length c0_0) := (blk_cell BK786.out 0).trans rfl; have hfz23_0 := blk_frozen BK786.out 0) | ((with_reducible refine gate_callee (f := 17) rfl ?_); refine goesL_ (some 26) rfl rfl Try.func17 (by kernel_rfl) rfl #[.agg #[.slice A0_0 l0_0.length c0_0]] rfl (by (try simp only [List.map_toArray, List.map_cons, List.map_nil]); first | done | rfl | (simp only [List.length_drop, List.length_take]; rfl)) ?_; (with_reducible refine (laws_toTrie.calls k _ _ l0_0 t796 _ ?side1 ?side2 A9.out).mono ?_); (case side1 => exact Kd.C_below HR0_0.out (by repeat (first | (with_reducible first | exact HB.out | apply below_alloc | apply pw_below_drewN | apply below_drew1 | refine below_set ?_ GE786.out | refine below_set ?_ GE795.out) | exact HB.out))); (case side2 => exact HC0_0.out); rintro e w24 ⟨v797, rfl, ho0, hb⟩; refine ⟨_, rfl, ?_⟩; have n0_ := Aside0.mk (Kd.R_elder' (by (with_reducible repeat (first | apply Kd.R_alloc | apply Kd.R_drewN | apply Kd.R_drew)); exact (Kd.R_mono (R_same_ (Kd.R_far (p := ⟨gb795, 0, none⟩) (Kd.R_types HO790.out BK795.out (by decide)) (fun _ hk => hk.2) (.slice Ao20 t791.length co20)) rfl) (fun _ h_ => h_.1))) (Kd.R_base ho0) hb); have n1_ := Aside0.mk (Kd.R_elder' (by (with_reducible repeat (first | apply Kd.R_alloc | apply Kd.R_drewN | apply Kd.R_drew)); exact (Kd.R_mono (R_same_ (Kd.R_far (p := ⟨gb795, 0, none⟩) (Kd.R_types HO793.out BK795.out (by decide)) (fun _ hk => hk.2) (.slice Ao20 t791.length co20)) rfl) (fun _ h_ => h_.1))) (Kd.R_base ho0) hb); have n2_ := Aside0.mk (Kd.R_lower (Kd.R_new' (Kd.R_new' ho0 (Kd.R_lt (by (with_reducible repeat (first | apply Kd.R_alloc | apply Kd.R_drewN | apply Kd.R_drew)); exact (Kd.R_mono (R_same_ (Kd.R_far (p := ⟨gb795, 0, none⟩) (Kd.R_types HO790.out BK795.out (by decide)) (fun _ hk => hk.2) (.slice Ao20 t791.length co20)) rfl) (fun _ h_ => h_.1))))) (Kd.R_lt (by (with_reducible repeat (first | apply Kd.R_alloc | apply Kd.R_drewN | apply Kd.R_drew)); exact (Kd.R_mono (R_same_ (Kd.R_far (p := ⟨gb795, 0, none⟩) (Kd.R_types HO793.out BK795.out (by decide)) (fun _ hk => hk.2) (.slice Ao20 t791.length co20)) rfl) (fun _ h_ => h_.1))))) (below_size (by repeat (first | (with_reducible first | exact HB.out | apply below_alloc | apply pw_below_drewN | apply below_drew1 | refine below_set ?_ GE786.out | refine below_set ?_ GE795.out) | exact HB.out)))); have n3_ := Aside0.mk (blk_below (g := gb786) (o := .cells #[.slice A0_0 l0_0.length c0_0] 24 (0, 0)) (by (with_reducible repeat (first | refine blk_drewN ?_ _ | refine blk_drew ?_ | refine blk_alloc ?_ _)); refine blk_far ?_ NB786_795.out _; (with_reducible repeat (first | refine blk_drewN ?_ _ | refine blk_drew ?_ | refine blk_alloc ?_ _)); exact BK786.out) hb); have n4_ := Aside0.mk (blk_below (g := gb795) (o := .cells #[.slice Ao20 t791.length co20] 30 (0, 0)) (by (with_reducible repeat (first | refine blk_drewN ?_ _ | refine blk_drew ?_ | refine blk_alloc ?_ _)); refine blk_put (cs := #[.slice none 0 0]) ?_ 0 _ rfl; (with_reducible repeat (first | refine blk_drewN ?_ _ | refine blk_drew ?_ | refine blk_alloc ?_ _)); exact BK795.out) hb); have n5_ := Aside0.mk (below_step (by repeat (first | (with_reducible first | exact HB.out | apply below_alloc | apply pw_below_drewN | apply below_drew1 | refine below_set ?_ GE786.out | refine below_set ?_ GE795.out) | exact HB.out)) hb); clear HO790; clear HO793; clear BK786; clear BK795; clear HB; have HO790 := n0_; have HO793 := n1_; have HO798 := n2_; have BK786 := n3_; have BK795 := n4_; have HB := n5_; clear n0_ n1_ n2_ n3_ n4_ n5_; (try clear hb); (try clear hb2); (try clear hk); (try clear hi); (try clear ho0)) | ((with_reducible refine gate_dst (N := 6) rfl ?_); refine box_event ?hg (N := 6) ?hd (cs := #[.slice none 0 0]) (t := 30) ?hr ?_; (case hd => rfl); (case hg => rfl); (case hr => first | (go_simp; done) | (go_simp; rfl)); intro gb799 hg w25 hbox hb; have n0_ := Aside0.mk (Kd.R_below (by (with_reducible repeat (first | apply Kd.R_alloc | apply Kd.R_drewN | apply Kd.R_drew)); exact HO790.out) hb); have n1_ := Aside0.mk (Kd.R_below (by (with_reducible repeat (first | apply Kd.R_alloc | apply Kd.R_drewN | apply Kd.R_drew)); exact HO793.out) hb); have n2_ := Aside0.mk (Kd.R_below (by (with_reducible repeat (first | apply Kd.R_alloc | apply Kd.R_drewN | apply Kd.R_drew)); exact HO798.out) hb); have n3_ := Aside0.mk (blk_below (g := gb786) (o := .cells #[.slice A0_0 l0_0.length c0_0] 24 (0, 0)) (by (with_reducible repeat (first | refine blk_drewN ?_ _ | refine blk_drew ?_ | refine blk_alloc ?_ _)); exact BK786.out) hb); have n4_ := Aside0.mk (blk_below (g := gb795) (o := .cells #[.slice Ao20 t791.length co20] 30 (0, 0)) (by (with_reducible repeat (first | refine blk_drewN ?_ _ | refine blk_drew ?_ | refine blk_alloc ?_ _)); exact BK795.out) hb); have n5_ := Aside0.mk (below_step (by repeat (first | (with_reducible first | exact HB.out | apply below_alloc | apply pw_below_drewN | apply below_drew1 | refine below_set ?_ GE786.out | refine below_set ?_ GE795.out) | exact HB.out)) hb); have n6_ := Aside0.mk (hbox); have n7_ := Aside0.mk ((by rw [hg]; exact (below_size (by repeat (first | (with_reducible first | exact HB.out | apply below_alloc | apply pw_below_drewN | apply below_drew1 | refine below_set ?_ GE786.out | refine below_set ?_ GE795.out) | exact HB.out))) : w.heap.size ≤ gb799)); have n8_ := Aside0.mk ((by rw [hg]; exact (below_size (by repeat (first | (with_reducible first | exact HB.out | apply below_alloc | apply pw_below_drewN | apply below_drew1 | refine below_set ?_ GE786.out | refine below_set ?_ GE795.out) | exact HB.out))) : w.heap.size ≤ gb799)); have n9_ := Aside0.mk ((by rw [hg]; exact Nat.ne_of_lt (blk_lt (g := gb786) (o := .cells #[.slice A0_0 l0_0.length c0_0] 24 (0, 0)) (by (with_reducible repeat (first | refine blk_drewN ?_ _ | refine blk_drew ?_ | refine blk_alloc ?_ _)); exact BK786.out)) : gb786 ≠ gb799)); have n10_ := Aside0.mk ((by rw [hg]; exact Nat.ne_of_gt (blk_lt (g := gb786) (o := .cells #[.slice A0_0 l0_0.length c0_0] 24 (0, 0)) (by (with_reducible repeat (first | refine blk_drewN ?_ _ | refine blk_drew ?_ | refine blk_alloc ?_ _)); exact BK786.out)) : gb799 ≠ gb786)); have n11_ := Aside0.mk ((by rw [hg]; exact Nat.ne_of_lt (blk_lt (g := gb795) (o := .cells #[.slice Ao20 t791.length co20] 30 (0, 0)) (by (with_reducible repeat (first | refine blk_drewN ?_ _ | refine blk_drew ?_ | refine blk_alloc ?_ _)); exact BK795.out)) : gb795 ≠ gb799)); have n12_ := Aside0.mk ((by rw [hg]; exact Nat.ne_of_gt (blk_lt (g := gb795) (o := .cells #[.slice Ao20 t791.length co20] 30 (0, 0)) (by (with_reducible repeat (first | refine blk_drewN ?_ _ | refine blk_drew ?_ | refine blk_alloc ?_ _)); exact BK795.out)) : gb799 ≠ gb795)); clear HO790; clear HO793; clear HO798; clear BK786; clear BK795; clear HB; have HO790 := n0_; have HO793 := n1_; have HO798 := n2_; have BK786 := n3_; have BK795 := n4_; have HB := n5_; have BK799 := n6_; have GW799 := n7_; have GE799 := n8_; have NB786_799 := n9_; have NB799_786 := n10_; have NB795_799 := n11_; have NB799_795 := n12_; clear n0_ n1_ n2_ n3_ n4_ n5_ n6_ n7_ n8_ n9_ n10_ n11_ n12_; clear hb hbox hg; obtain ⟨Ao26, co26, eo26⟩ := Kd.R_slice HO798.out; subst eo26; have hnb27 := NB799_786.out; have hnc27 := NB786_799.out; have hnb28 := NB799_795.out; have hnc28 := NB795_799.out; have hcz29_0 : w25.cell? ⟨gb799, 0, none⟩ = some (.slice none 0 0) := (blk_cell BK799.out 0).trans rfl; have hfz29_0 := blk_frozen BK799.out 0) | ((with_reducible refine gate_callee (f := 44) rfl ?_); refine goesL_ (some 29) rfl rfl Try.func44 (by kernel_rfl) rfl #[.agg #[.slice Ao26 t796.length co26]] rfl (by (try simp only [List.map_toArray, List.map_cons, List.map_nil]); first | done | rfl | (simp only [List.length_drop, List.length_take]; rfl)) ?_; (with_reducible refine (impl_LastWords.calls _ _ t796 t800 t803 _ ?side1 ?side2 A10.out).mono ?_); (case side1 => refine (Kd.R_reads' (e := 86) (base := w.heap.size) (ok := fun k_ => ((True ∧ some k_ ≠ (.slice Ao17 t788.length co17 : Value).ownBlock) ∧ some k_ ≠ (.slice Ao20 t791.length co20 : Value).ownBlock)) (n := t796.length) (c := co26) ?_).2.2; exact (by (with_reducible repeat (first | apply Kd.R_alloc | apply Kd.R_drewN | apply Kd.R_drew)); exact (Kd.R_mono (R_same_ (Kd.R_far (p := ⟨gb799, 0, none⟩) (Kd.R_types HO798.out BK799.out (by decide)) (fun _ hk => hk.2) (.slice Ao26 t796.length co26)) rfl) (fun _ h_ => h_.1)))); (case side2 => exact (Kd.R_reads' HO798.out).2.1); rintro e w30 ⟨v801, rfl, ho0, hb⟩; refine ⟨_, rfl, ?_⟩; have n0_ := Aside0.mk (Kd.R_elder' (by (with_reducible repeat (first | apply Kd.R_alloc | apply Kd.R_drewN | apply Kd.R_drew)); exact (Kd.R_mono (R_same_ (Kd.R_far (p := ⟨gb799, 0, none⟩) (Kd.R_types HO790.out BK799.out (by decide)) (fun _ hk => hk.2) (.slice Ao26 t796.length co26)) rfl) (fun _ h_ => h_.1))) (Kd.R_base ho0) hb); have n1_ := Aside0.mk (Kd.R_elder' (by (with_reducible repeat (first | apply Kd.R_alloc | apply Kd.R_drewN | apply Kd.R_drew)); exact (Kd.R_mono (R_same_ (Kd.R_far (p := ⟨gb799, 0, none⟩) (Kd.R_types HO793.out BK799.out (by decide)) (fun _ hk => hk.2) (.slice Ao26 t796.length co26)) rfl) (fun _ h_ => h_.1))) (Kd.R_base ho0) hb); have n2_ := Aside0.mk (Kd.R_elder' (by (with_reducible repeat (first | apply Kd.R_alloc | apply Kd.R_drewN | apply Kd.R_drew)); exact (Kd.R_mono (R_same_ (Kd.R_far (p := ⟨gb799, 0, none⟩) (Kd.R_types HO798.out BK799.out (by decide)) (fun _ hk => hk.2) (.slice Ao26 t796.length co26)) rfl) (fun _ h_ => h_.1))) (Kd.R_base ho0) hb); have n3_ := Aside0.mk (Kd.R_lower (Kd.R_new' (Kd.R_new' (Kd.R_new' ho0 (Kd.R_lt (by (with_reducible repeat (first | apply Kd.R_alloc | apply Kd.R_drewN | apply Kd.R_drew)); exact (Kd.R_mono (R_same_ (Kd.R_far (p := ⟨gb799, 0, none⟩) (Kd.R_types HO790.out BK799.out (by decide)) (fun _ hk => hk.2) (.slice Ao26 t796.length co26)) rfl) (fun _ h_ => h_.1))))) (Kd.R_lt (by (with_reducible repeat (first | apply Kd.R_alloc | apply Kd.R_drewN | apply Kd.R_drew)); exact (Kd.R_mono (R_same_ (Kd.R_far (p := ⟨gb799, 0, none⟩) (Kd.R_types HO793.out BK799.out (by decide)) (fun _ hk => hk.2) (.slice Ao26 t796.length co26)) rfl) (fun _ h_ => h_.1))))) (Kd.R_lt (by (with_reducible repeat (first | apply Kd.R_alloc | apply Kd.R_drewN | apply Kd.R_drew)); exact (Kd.R_mono (R_same_ (Kd.R_far (p := ⟨gb799, 0, none⟩) (Kd.R_types HO798.out BK799.out (by decide)) (fun _ hk => hk.2) (.slice Ao26 t796.length co26)) rfl) (fun _ h_ => h_.1))))) (below_size (by repeat (first | (with_reducible first | exact HB.out | apply below_alloc | apply pw_below_drewN | apply below_drew1 | refine below_set ?_ GE786.out | refine below_set ?_ GE795.out | refine below_set ?_ GE799.out) | exact HB.out)))); have n4_ := Aside0.mk (blk_below (g := gb786) (o := .cells #[.slice A0_0 l0_0.length c0_0] 24 (0, 0)) (by (with_reducible repeat (first | refine blk_drewN ?_ _ | refine blk_drew ?_ | refine blk_alloc ?_ _)); refine blk_far ?_ NB786_799.out _; (with_reducible repeat (first | refine blk_drewN ?_ _ | refine blk_drew ?_ | refine blk_alloc ?_ _)); exact BK786.out) hb); have n5_ := Aside0.mk (blk_below (g := gb795) (o := .cells #[.slice Ao20 t791.length co20] 30 (0, 0)) (by (with_reducible repeat (first | refine blk_drewN ?_ _ | refine blk_drew ?_ | refine blk_alloc ?_ _)); refine blk_far ?_ NB795_799.out _; (with_reducible repeat (first | refine blk_drewN ?_ _ | refine blk_drew ?_ | refine blk_alloc ?_ _)); exact BK795.out) hb); have n6_ := Aside0.mk (blk_below (g := gb799) (o := .cells #[.slice Ao26 t796.length co26] 30 (0, 0)) (by (with_reducible repeat (first | refine blk_drewN ?_ _ | refine blk_drew ?_ | refine blk_alloc ?_ _)); refine blk_put (cs := #[.slice none 0 0]) ?_ 0 _ rfl; (with_reducible repeat (first | refine blk_drewN ?_ _ | refine blk_drew ?_ | refine blk_alloc ?_ _)); exact BK799.out) hb); have n7_ := Aside0.mk (below_step (by repeat (first | (with_reducible first | exact HB.out | apply below_alloc | apply pw_below_drewN | apply below_drew1 | refine below_set ?_ GE786.out | refine below_set ?_ GE795.out | refine below_set ?_ GE799.out) | exact HB.out)) hb); clear HO790; clear HO793; clear HO798; clear BK786; clear BK795; clear BK799; clear HB; have HO790 := n0_; have HO793 := n1_; have HO798 := n2_; have HO802 := n3_; have BK786 := n4_; have BK795 := n5_; have BK799 := n6_; have HB := n7_; clear n0_ n1_ n2_ n3_ n4_ n5_ n6_ n7_; (try clear hb); (try clear hb2); (try clear hk); (try clear hi); (try clear ho0)) | ((with_reducible refine gate_dst (N := 7) rfl ?_); refine box_event ?hg (N := 7) ?hd (cs := #[.slice none 0 0]) (t := 30) ?hr ?_; (case hd => rfl); (case hg => rfl); (case hr => first | (go_simp; done) | (go_simp; rfl)); intro gb804 hg w31 hbox hb; have n0_ := Aside0.mk (Kd.R_below (by (with_reducible repeat (first | apply Kd.R_alloc | apply Kd.R_drewN | apply Kd.R_drew)); exact HO790.out) hb); have n1_ := Aside0.mk (Kd.R_below (by (with_reducible repeat (first | apply Kd.R_alloc | apply Kd.R_drewN | apply Kd.R_drew)); exact HO793.out) hb); have n2_ := Aside0.mk (Kd.R_below (by (with_reducible repeat (first | apply Kd.R_alloc | apply Kd.R_drewN | apply Kd.R_drew)); exact HO798.out) hb); have n3_ := Aside0.mk (Kd.R_below (by (with_reducible repeat (first | apply Kd.R_alloc | apply Kd.R_drewN | apply Kd.R_drew)); exact HO802.out) hb); have n4_ := Aside0.mk (blk_below (g := gb786) (o := .cells #[.slice A0_0 l0_0.length c0_0] 24 (0, 0)) (by (with_reducible repeat (first | refine blk_drewN ?_ _ | refine blk_drew ?_ | refine blk_alloc ?_ _)); exact BK786.out) hb); have n5_ := Aside0.mk (blk_below (g := gb795) (o := .cells #[.slice Ao20 t791.length co20] 30 (0, 0)) (by (with_reducible repeat (first | refine blk_drewN ?_ _ | refine blk_drew ?_ | refine blk_alloc ?_ _)); exact BK795.out) hb); have n6_ := Aside0.mk (blk_below (g := gb799) (o := .cells #[.slice Ao26 t796.length co26] 30 (0, 0)) (by (with_reducible repeat (first | refine blk_drewN ?_ _ | refine blk_drew ?_ | refine blk_alloc ?_ _)); exact BK799.out) hb); have n7_ := Aside0.mk (below_step (by repeat (first | (with_reducible first | exact HB.out | apply below_alloc | apply pw_below_drewN | apply below_drew1 | refine below_set ?_ GE786.out | refine below_set ?_ GE795.out | refine below_set ?_ GE799.out) | exact HB.out)) hb); have n8_ := Aside0.mk (hbox); have n9_ := Aside0.mk ((by rw [hg]; exact (below_size (by repeat (first | (with_reducible first | exact HB.out | apply below_alloc | apply pw_below_drewN | apply below_drew1 | refine below_set ?_ GE786.out | refine below_set ?_ GE795.out | refine below_set ?_ GE799.out) | exact HB.out))) : w.heap.size ≤ gb804)); have n10_ := Aside0.mk ((by rw [hg]; exact (below_size (by repeat (first | (with_reducible first | exact HB.out | apply below_alloc | apply pw_below_drewN | apply below_drew1 | refine below_set ?_ GE786.out | refine below_set ?_ GE795.out | refine below_set ?_ GE799.out) | exact HB.out))) : w.heap.size ≤ gb804)); have n11_ := Aside0.mk ((by rw [hg]; exact Nat.ne_of_lt (blk_lt (g := gb786) (o := .cells #[.slice A0_0 l0_0.length c0_0] 24 (0, 0)) (by (with_reducible repeat (first | refine blk_drewN ?_ _ | refine blk_drew ?_ | refine blk_alloc ?_ _)); exact BK786.out)) : gb786 ≠ gb804)); have n12_ := Aside0.mk ((by rw [hg]; exact Nat.ne_of_gt (blk_lt (g := gb786) (o := .cells #[.slice A0_0 l0_0.length c0_0] 24 (0, 0)) (by (with_reducible repeat (first | refine blk_drewN ?_ _ | refine blk_drew ?_ | refine blk_alloc ?_ _)); exact BK786.out)) : gb804 ≠ gb786)); have n13_ := Aside0.mk ((by rw [hg]; exact Nat.ne_of_lt (blk_lt (g := gb795) (o := .cells #[.slice Ao20 t791.length co20] 30 (0, 0)) (by (with_reducible repeat (first | refine blk_drewN ?_ _ | refine blk_drew ?_ | refine blk_alloc ?_ _)); exact BK795.out)) : gb795 ≠ gb804)); have n14_ := Aside0.mk ((by rw [hg]; exact Nat.ne_of_gt (blk_lt (g := gb795) (o := .cells #[.slice Ao20 t791.length co20] 30 (0, 0)) (by (with_reducible repeat (first | refine blk_drewN ?_ _ | refine blk_drew ?_ | refine blk_alloc ?_ _)); exact BK795.out)) : gb804 ≠ gb795)); have n15_ := Aside0.mk ((by rw [hg]; exact Nat.ne_of_lt (blk_lt (g := gb799) (o := .cells #[.slice Ao26 t796.length co26] 30 (0, 0)) (by (with_reducible repeat (first | refine blk_drewN ?_ _ | refine blk_drew ?_ | refine blk_alloc ?_ _)); exact BK799.out)) : gb799 ≠ gb804)); have n16_ := Aside0.mk ((by rw [hg]; exact Nat.ne_of_gt (blk_lt (g := gb799) (o := .cells #[.slice Ao26 t796.length co26] 30 (0, 0)) (by (with_reducible repeat (first | refine blk_drewN ?_ _ | refine blk_drew ?_ | refine blk_alloc ?_ _)); exact BK799.out)) : gb804 ≠ gb799)); clear HO790; clear HO793; clear HO798; clear HO802; clear BK786; clear BK795; clear BK799; clear HB; have HO790 := n0_; have HO793 := n1_; have HO798 := n2_; have HO802 := n3_; have BK786 := n4_; have BK795 := n5_; have BK799 := n6_; have HB := n7_; have BK804 := n8_; have GW804 := n9_; have GE804 := n10_; have NB786_804 := n11_; have NB804_786 := n12_; have NB795_804 := n13_; have NB804_795 := n14_; have NB799_804 := n15_; have NB804_799 := n16_; clear n0_ n1_ n2_ n3_ n4_ n5_ n6_ n7_ n8_ n9_ n10_ n11_ n12_ n13_ n14_ n15_ n16_; clear hb hbox hg; obtain ⟨Ao32, co32, eo32⟩ := Kd.R_slice HO802.out; subst eo32; have hnb33 := NB804_786.out; have hnc33 := NB786_804.out; have hnb34 := NB804_795.out; have hnc34 := NB795_804.out; have hnb35 := NB804_799.out; have hnc35 := NB799_804.out; have hcz36_0 : w31.cell? ⟨gb804, 0, none⟩ = some (.slice none 0 0) := (blk_cell BK804.out 0).trans rfl; have hfz36_0 := blk_frozen BK804.out 0))
    (try simp only [Act.put, List.setIfInBounds_toArray, List.set_cons_zero, List.set_cons_succ])
    go_cut [40] (fun v40 wc => ∃ (kq : Nat) (x40_10 : Bool), v40 = .bool x40_10 ∧ Aside0 (laws_FnExactLastWords.j0 kq t794 t803 x40_10 l0_0 t791 t796 t800 = some r) ∧ Aside0 (kq ≤ k) ∧ Aside0 (Kd.R k86 86 wc w.heap.size (fun k_ => some k_ ≠ ((.slice Ao26 t796.length co26) : Value).ownBlock ∧ some k_ ≠ ((.slice Ao32 t800.length co32) : Value).ownBlock) (.slice Ao20 t791.length co20) t791) ∧ Aside0 (Kd.R k86 86 wc w.heap.size (fun k_ => some k_ ≠ ((.slice Ao20 t791.length co20) : Value).ownBlock ∧ some k_ ≠ ((.slice Ao32 t800.length co32) : Value).ownBlock) (.slice Ao26 t796.length co26) t796) ∧ Aside0 (Kd.R k86 86 wc w.heap.size (fun k_ => some k_ ≠ ((.slice Ao20 t791.length co20) : Value).ownBlock ∧ some k_ ≠ ((.slice Ao26 t796.length co26) : Value).ownBlock) (.slice Ao32 t800.length co32) t800) ∧ Aside0 (wc.heap[gb786]? = some (.cells #[(.slice A0_0 l0_0.length c0_0)] 24 (0, 0))) ∧ Aside0 (wc.heap[gb795]? = some (.cells #[(.slice Ao20 t791.length co20)] 30 (0, 0))) ∧ Aside0 (wc.heap[gb799]? = some (.cells #[(.slice Ao26 t796.length co26)] 30 (0, 0))) ∧ Aside0 (wc.heap[gb804]? = some (.cells #[(.slice Ao32 t800.length co32)] 30 (0, 0))) ∧ Aside0 (Below w.heap.size w wc))
    case first =>
      have H := HC11.out
      clear HC11
      replace H := Option.bind_eq_some_iff.mp H
      obtain ⟨t805, A370, H⟩ := H
      replace H : (if t805 = true then (laws_FnExactLastWords.j0 k t794 t803 (t803 != t794) l0_0 t791 t796 t800) else (laws_FnExactLastWords.j0 k t794 t803 true l0_0 t791 t796 t800)) = some r := H
      have A37 := Aside0.mk A370
      clear A370
      by_cases c38 : t805 = true
      · subst c38
        have H1 : (laws_FnExactLastWords.j0 k t794 t803 (t803 != t794) l0_0 t791 t796 t800) = some r := by rw [if_pos rfl] at H; exact H
        clear H
        have H := H1
        clear H1
        have H' := Aside0.mk H
        clear H
        have hnb39 := NB804_786.out
        have hnc39 := NB786_804.out
        have hnb40 := NB804_795.out
        have hnc40 := NB795_804.out
        have hnb41 := NB804_799.out
        have hnc41 := NB799_804.out
        have hcz42_0 : w31.cell? ⟨gb804, 0, none⟩ = some (.slice none 0 0) := (blk_cell BK804.out 0).trans rfl
        have hfz42_0 := blk_frozen BK804.out 0
        have hnb43 := NB795_786.out
        have hnc43 := NB786_795.out
        have hnb44 := NB795_799.out
        have hnc44 := NB799_795.out
        have hcz45_0 : w31.cell? ⟨gb795, 0, none⟩ = some (.slice Ao20 t791.length co20) := (blk_cell BK795.out 0).trans rfl
        have hfz45_0 := blk_frozen BK795.out 0
        go_wp2_with (first | ((with_reducible refine gate_callee (f := 19) rfl ?_); refine goesL_ (some 34) rfl rfl Try.func19 (by kernel_rfl) rfl #[.agg #[.slice Ao32 t800.length co32], .agg #[.slice Ao20 t791.length co20]] rfl (by (try simp only [List.map_toArray, List.map_cons, List.map_nil]); first | done | rfl | (simp only [List.length_drop, List.length_take]; rfl)) ?_; (with_reducible refine (laws_eqTrie.calls k _ _ t800 _ _ t791 true _ ?side1 ?side2 ?side3 ?side4 A37.out).mono ?_); (case side1 => refine (Kd.R_reads' (e := 86) (base := w.heap.size) (ok := fun k_ => (((True ∧ some k_ ≠ (.slice Ao17 t788.length co17 : Value).ownBlock) ∧ some k_ ≠ (.slice Ao20 t791.length co20 : Value).ownBlock) ∧ some k_ ≠ (.slice Ao26 t796.length co26 : Value).ownBlock)) (n := t800.length) (c := co32) ?_).2.2; exact (by (with_reducible repeat (first | apply Kd.R_alloc | apply Kd.R_drewN | apply Kd.R_drew)); exact (Kd.R_mono (R_same_ (Kd.R_far (p := ⟨gb804, 0, none⟩) (Kd.R_types HO802.out BK804.out (by decide)) (fun _ hk => hk.2) (.slice Ao32 t800.length co32)) rfl) (fun _ h_ => h_.1)))); (case side2 => exact (Kd.R_reads' HO802.out).2.1); (case side3 => refine (Kd.R_reads' (e := 86) (base := w.heap.size) (ok := fun k_ => (((True ∧ some k_ ≠ (.slice Ao17 t788.length co17 : Value).ownBlock) ∧ some k_ ≠ (.slice Ao26 t796.length co26 : Value).ownBlock) ∧ some k_ ≠ (.slice Ao32 t800.length co32 : Value).ownBlock)) (n := t791.length) (c := co20) ?_).2.2; exact (by (with_reducible repeat (first | apply Kd.R_alloc | apply Kd.R_drewN | apply Kd.R_drew)); exact (Kd.R_mono (R_same_ (Kd.R_far (p := ⟨gb804, 0, none⟩) (Kd.R_types HO793.out BK804.out (by decide)) (fun _ hk => hk.2) (.slice Ao32 t800.length co32)) rfl) (fun _ h_ => h_.1)))); (case side4 => exact (Kd.R_reads' HO793.out).2.1); rintro e w46 ⟨rfl, hb⟩; refine ⟨_, rfl, ?_⟩; have n0_ := Aside0.mk (Kd.R_below (by (with_reducible repeat (first | apply Kd.R_alloc | apply Kd.R_drewN | apply Kd.R_drew)); exact (Kd.R_mono (R_same_ (Kd.R_far (p := ⟨gb804, 0, none⟩) (Kd.R_types HO790.out BK804.out (by decide)) (fun _ hk => hk.2) (.slice Ao32 t800.length co32)) rfl) (fun _ h_ => h_.1))) hb); have n1_ := Aside0.mk (Kd.R_below (by (with_reducible repeat (first | apply Kd.R_alloc | apply Kd.R_drewN | apply Kd.R_drew)); exact (Kd.R_mono (R_same_ (Kd.R_far (p := ⟨gb804, 0, none⟩) (Kd.R_types HO793.out BK804.out (by decide)) (fun _ hk => hk.2) (.slice Ao32 t800.length co32)) rfl) (fun _ h_ => h_.1))) hb); have n2_ := Aside0.mk (Kd.R_below (by (with_reducible repeat (first | apply Kd.R_alloc | apply Kd.R_drewN | apply Kd.R_drew)); exact (Kd.R_mono (R_same_ (Kd.R_far (p := ⟨gb804, 0, none⟩) (Kd.R_types HO798.out BK804.out (by decide)) (fun _ hk => hk.2) (.slice Ao32 t800.length co32)) rfl) (fun _ h_ => h_.1))) hb); have n3_ := Aside0.mk (Kd.R_below (by (with_reducible repeat (first | apply Kd.R_alloc | apply Kd.R_drewN | apply Kd.R_drew)); exact (Kd.R_mono (R_same_ (Kd.R_far (p := ⟨gb804, 0, none⟩) (Kd.R_types HO802.out BK804.out (by decide)) (fun _ hk => hk.2) (.slice Ao32 t800.length co32)) rfl) (fun _ h_ => h_.1))) hb); have n4_ := Aside0.mk (blk_below (g := gb786) (o := .cells #[.slice A0_0 l0_0.length c0_0] 24 (0, 0)) (by (with_reducible repeat (first | refine blk_drewN ?_ _ | refine blk_drew ?_ | refine blk_alloc ?_ _)); refine blk_far ?_ NB786_804.out _; (with_reducible repeat (first | refine blk_drewN ?_ _ | refine blk_drew ?_ | refine blk_alloc ?_ _)); exact BK786.out) hb); have n5_ := Aside0.mk (blk_below (g := gb795) (o := .cells #[.slice Ao20 t791.length co20] 30 (0, 0)) (by (with_reducible repeat (first | refine blk_drewN ?_ _ | refine blk_drew ?_ | refine blk_alloc ?_ _)); refine blk_far ?_ NB795_804.out _; (with_reducible repeat (first | refine blk_drewN ?_ _ | refine blk_drew ?_ | refine blk_alloc ?_ _)); exact BK795.out) hb); have n6_ := Aside0.mk (blk_below (g := gb799) (o := .cells #[.slice Ao26 t796.length co26] 30 (0, 0)) (by (with_reducible repeat (first | refine blk_drewN ?_ _ | refine blk_drew ?_ | refine blk_alloc ?_ _)); refine blk_far ?_ NB799_804.out _; (with_reducible repeat (first | refine blk_drewN ?_ _ | refine blk_drew ?_ | refine blk_alloc ?_ _)); exact BK799.out) hb); have n7_ := Aside0.mk (blk_below (g := gb804) (o := .cells #[.slice Ao32 t800.length co32] 30 (0, 0)) (by (with_reducible repeat (first | refine blk_drewN ?_ _ | refine blk_drew ?_ | refine blk_alloc ?_ _)); refine blk_put (cs := #[.slice none 0 0]) ?_ 0 _ rfl; (with_reducible repeat (first | refine blk_drewN ?_ _ | refine blk_drew ?_ | refine blk_alloc ?_ _)); exact BK804.out) hb); have n8_ := Aside0.mk (below_step (by repeat (first | (with_reducible first | exact HB.out | apply below_alloc | apply pw_below_drewN | apply below_drew1 | refine below_set ?_ GE786.out | refine below_set ?_ GE795.out | refine below_set ?_ GE799.out | refine below_set ?_ GE804.out) | exact HB.out)) hb); clear HO790; clear HO793; clear HO798; clear HO802; clear BK786; clear BK795; clear BK799; clear BK804; clear HB; have HO790 := n0_; have HO793 := n1_; have HO798 := n2_; have HO802 := n3_; have BK786 := n4_; have BK795 := n5_; have BK799 := n6_; have BK804 := n7_; have HB := n8_; clear n0_ n1_ n2_ n3_ n4_ n5_ n6_ n7_ n8_; (try clear hb); (try clear hb2); (try clear hk); (try clear hi)))
        go_meet
        case rel => exact ⟨_, ((t803 != t794)), (by first | rfl | (simp; done) | (simp [*]; done)), H', ⟨by first | omega | exact Nat.le_refl _⟩, ⟨by (with_reducible repeat (first | apply Kd.R_alloc | apply Kd.R_drewN | apply Kd.R_drew)); exact Kd.R_mono HO793.out (fun _ hk => ⟨hk.1.2, hk.2⟩)⟩, ⟨by (with_reducible repeat (first | apply Kd.R_alloc | apply Kd.R_drewN | apply Kd.R_drew)); exact Kd.R_mono HO798.out (fun _ hk => ⟨hk.1.2, hk.2⟩)⟩, ⟨by (with_reducible repeat (first | apply Kd.R_alloc | apply Kd.R_drewN | apply Kd.R_drew)); exact Kd.R_mono HO802.out (fun _ hk => ⟨hk.1.2, hk.2⟩)⟩, ⟨by (with_reducible repeat (first | refine blk_drewN ?_ _ | refine blk_drew ?_ | refine blk_alloc ?_ _)); exact BK786.out⟩, ⟨by (with_reducible repeat (first | refine blk_drewN ?_ _ | refine blk_drew ?_ | refine blk_alloc ?_ _)); exact BK795.out⟩, ⟨by (with_reducible repeat (first | refine blk_drewN ?_ _ | refine blk_drew ?_ | refine blk_alloc ?_ _)); exact BK799.out⟩, ⟨by (with_reducible repeat (first | refine blk_drewN ?_ _ | refine blk_drew ?_ | refine blk_alloc ?_ _)); exact BK804.out⟩, ⟨by repeat (first | (with_reducible first | exact HB.out | apply below_alloc | apply pw_below_drewN | apply below_drew1 | refine below_set ?_ GE786.out | refine below_set ?_ GE795.out | refine below_set ?_ GE799.out | refine below_set ?_ GE804.out) | exact HB.out)⟩⟩
      · replace c38 := Bool.eq_false_iff.mpr c38
        subst c38
        have H1 : (laws_FnExactLastWords.j0 k t794 t803 true l0_0 t791 t796 t800) = some r := by rw [if_neg (show ¬ (false = true) by decide)] at H; exact H
        clear H
        have H := H1
        clear H1
        have H' := Aside0.mk H
        clear H
        have hnb47 := NB804_786.out
        have hnc47 := NB786_804.out
        have hnb48 := NB804_795.out
        have hnc48 := NB795_804.out
        have hnb49 := NB804_799.out
        have hnc49 := NB799_804.out
        have hcz50_0 : w31.cell? ⟨gb804, 0, none⟩ = some (.slice none 0 0) := (blk_cell BK804.out 0).trans rfl
        have hfz50_0 := blk_frozen BK804.out 0
        have hnb51 := NB795_786.out
        have hnc51 := NB786_795.out
        have hnb52 := NB795_799.out
        have hnc52 := NB799_795.out
        have hcz53_0 : w31.cell? ⟨gb795, 0, none⟩ = some (.slice Ao20 t791.length co20) := (blk_cell BK795.out 0).trans rfl
        have hfz53_0 := blk_frozen BK795.out 0
        go_wp2_with (first | ((with_reducible refine gate_callee (f := 19) rfl ?_); refine goesL_ (some 34) rfl rfl Try.func19 (by kernel_rfl) rfl #[.agg #[.slice Ao32 t800.length co32], .agg #[.slice Ao20 t791.length co20]] rfl (by (try simp only [List.map_toArray, List.map_cons, List.map_nil]); first | done | rfl | (simp only [List.length_drop, List.length_take]; rfl)) ?_; (with_reducible refine (laws_eqTrie.calls k _ _ t800 _ _ t791 false _ ?side1 ?side2 ?side3 ?side4 A37.out).mono ?_); (case side1 => refine (Kd.R_reads' (e := 86) (base := w.heap.size) (ok := fun k_ => (((True ∧ some k_ ≠ (.slice Ao17 t788.length co17 : Value).ownBlock) ∧ some k_ ≠ (.slice Ao20 t791.length co20 : Value).ownBlock) ∧ some k_ ≠ (.slice Ao26 t796.length co26 : Value).ownBlock)) (n := t800.length) (c := co32) ?_).2.2; exact (by (with_reducible repeat (first | apply Kd.R_alloc | apply Kd.R_drewN | apply Kd.R_drew)); exact (Kd.R_mono (R_same_ (Kd.R_far (p := ⟨gb804, 0, none⟩) (Kd.R_types HO802.out BK804.out (by decide)) (fun _ hk => hk.2) (.slice Ao32 t800.length co32)) rfl) (fun _ h_ => h_.1)))); (case side2 => exact (Kd.R_reads' HO802.out).2.1); (case side3 => refine (Kd.R_reads' (e := 86) (base := w.heap.size) (ok := fun k_ => (((True ∧ some k_ ≠ (.slice Ao17 t788.length co17 : Value).ownBlock) ∧ some k_ ≠ (.slice Ao26 t796.length co26 : Value).ownBlock) ∧ some k_ ≠ (.slice Ao32 t800.length co32 : Value).ownBlock)) (n := t791.length) (c := co20) ?_).2.2; exact (by (with_reducible repeat (first | apply Kd.R_alloc | apply Kd.R_drewN | apply Kd.R_drew)); exact (Kd.R_mono (R_same_ (Kd.R_far (p := ⟨gb804, 0, none⟩) (Kd.R_types HO793.out BK804.out (by decide)) (fun _ hk => hk.2) (.slice Ao32 t800.length co32)) rfl) (fun _ h_ => h_.1)))); (case side4 => exact (Kd.R_reads' HO793.out).2.1); rintro e w54 ⟨rfl, hb⟩; refine ⟨_, rfl, ?_⟩; have n0_ := Aside0.mk (Kd.R_below (by (with_reducible repeat (first | apply Kd.R_alloc | apply Kd.R_drewN | apply Kd.R_drew)); exact (Kd.R_mono (R_same_ (Kd.R_far (p := ⟨gb804, 0, none⟩) (Kd.R_types HO790.out BK804.out (by decide)) (fun _ hk => hk.2) (.slice Ao32 t800.length co32)) rfl) (fun _ h_ => h_.1))) hb); have n1_ := Aside0.mk (Kd.R_below (by (with_reducible repeat (first | apply Kd.R_alloc | apply Kd.R_drewN | apply Kd.R_drew)); exact (Kd.R_mono (R_same_ (Kd.R_far (p := ⟨gb804, 0, none⟩) (Kd.R_types HO793.out BK804.out (by decide)) (fun _ hk => hk.2) (.slice Ao32 t800.length co32)) rfl) (fun _ h_ => h_.1))) hb); have n2_ := Aside0.mk (Kd.R_below (by (with_reducible repeat (first | apply Kd.R_alloc | apply Kd.R_drewN | apply Kd.R_drew)); exact (Kd.R_mono (R_same_ (Kd.R_far (p := ⟨gb804, 0, none⟩) (Kd.R_types HO798.out BK804.out (by decide)) (fun _ hk => hk.2) (.slice Ao32 t800.length co32)) rfl) (fun _ h_ => h_.1))) hb); have n3_ := Aside0.mk (Kd.R_below (by (with_reducible repeat (first | apply Kd.R_alloc | apply Kd.R_drewN | apply Kd.R_drew)); exact (Kd.R_mono (R_same_ (Kd.R_far (p := ⟨gb804, 0, none⟩) (Kd.R_types HO802.out BK804.out (by decide)) (fun _ hk => hk.2) (.slice Ao32 t800.length co32)) rfl) (fun _ h_ => h_.1))) hb); have n4_ := Aside0.mk (blk_below (g := gb786) (o := .cells #[.slice A0_0 l0_0.length c0_0] 24 (0, 0)) (by (with_reducible repeat (first | refine blk_drewN ?_ _ | refine blk_drew ?_ | refine blk_alloc ?_ _)); refine blk_far ?_ NB786_804.out _; (with_reducible repeat (first | refine blk_drewN ?_ _ | refine blk_drew ?_ | refine blk_alloc ?_ _)); exact BK786.out) hb); have n5_ := Aside0.mk (blk_below (g := gb795) (o := .cells #[.slice Ao20 t791.length co20] 30 (0, 0)) (by (with_reducible repeat (first | refine blk_drewN ?_ _ | refine blk_drew ?_ | refine blk_alloc ?_ _)); refine blk_far ?_ NB795_804.out _; (with_reducible repeat (first | refine blk_drewN ?_ _ | refine blk_drew ?_ | refine blk_alloc ?_ _)); exact BK795.out) hb); have n6_ := Aside0.mk (blk_below (g := gb799) (o := .cells #[.slice Ao26 t796.length co26] 30 (0, 0)) (by (with_reducible repeat (first | refine blk_drewN ?_ _ | refine blk_drew ?_ | refine blk_alloc ?_ _)); refine blk_far ?_ NB799_804.out _; (with_reducible repeat (first | refine blk_drewN ?_ _ | refine blk_drew ?_ | refine blk_alloc ?_ _)); exact BK799.out) hb); have n7_ := Aside0.mk (blk_below (g := gb804) (o := .cells #[.slice Ao32 t800.length co32] 30 (0, 0)) (by (with_reducible repeat (first | refine blk_drewN ?_ _ | refine blk_drew ?_ | refine blk_alloc ?_ _)); refine blk_put (cs := #[.slice none 0 0]) ?_ 0 _ rfl; (with_reducible repeat (first | refine blk_drewN ?_ _ | refine blk_drew ?_ | refine blk_alloc ?_ _)); exact BK804.out) hb); have n8_ := Aside0.mk (below_step (by repeat (first | (with_reducible first | exact HB.out | apply below_alloc | apply pw_below_drewN | apply below_drew1 | refine below_set ?_ GE786.out | refine below_set ?_ GE795.out | refine below_set ?_ GE799.out | refine below_set ?_ GE804.out) | exact HB.out)) hb); clear HO790; clear HO793; clear HO798; clear HO802; clear BK786; clear BK795; clear BK799; clear BK804; clear HB; have HO790 := n0_; have HO793 := n1_; have HO798 := n2_; have HO802 := n3_; have BK786 := n4_; have BK795 := n5_; have BK799 := n6_; have BK804 := n7_; have HB := n8_; clear n0_ n1_ n2_ n3_ n4_ n5_ n6_ n7_ n8_; (try clear hb); (try clear hb2); (try clear hk); (try clear hi)))
        go_meet
        case rel => exact ⟨_, (true), (by first | rfl | (simp; done) | (simp [*]; done)), H', ⟨by first | omega | exact Nat.le_refl _⟩, ⟨by (with_reducible repeat (first | apply Kd.R_alloc | apply Kd.R_drewN | apply Kd.R_drew)); exact Kd.R_mono HO793.out (fun _ hk => ⟨hk.1.2, hk.2⟩)⟩, ⟨by (with_reducible repeat (first | apply Kd.R_alloc | apply Kd.R_drewN | apply Kd.R_drew)); exact Kd.R_mono HO798.out (fun _ hk => ⟨hk.1.2, hk.2⟩)⟩, ⟨by (with_reducible repeat (first | apply Kd.R_alloc | apply Kd.R_drewN | apply Kd.R_drew)); exact Kd.R_mono HO802.out (fun _ hk => ⟨hk.1.2, hk.2⟩)⟩, ⟨by (with_reducible repeat (first | refine blk_drewN ?_ _ | refine blk_drew ?_ | refine blk_alloc ?_ _)); exact BK786.out⟩, ⟨by (with_reducible repeat (first | refine blk_drewN ?_ _ | refine blk_drew ?_ | refine blk_alloc ?_ _)); exact BK795.out⟩, ⟨by (with_reducible repeat (first | refine blk_drewN ?_ _ | refine blk_drew ?_ | refine blk_alloc ?_ _)); exact BK799.out⟩, ⟨by (with_reducible repeat (first | refine blk_drewN ?_ _ | refine blk_drew ?_ | refine blk_alloc ?_ _)); exact BK804.out⟩, ⟨by repeat (first | (with_reducible first | exact HB.out | apply below_alloc | apply pw_below_drewN | apply below_drew1 | refine below_set ?_ GE786.out | refine below_set ?_ GE795.out | refine below_set ?_ GE799.out | refine below_set ?_ GE804.out) | exact HB.out)⟩⟩
    case rest =>
      clear HC11
      try clear c1
      try clear c2
      try clear p2
      try clear c3
      try clear c3b0
      try clear c4
      try clear c5
      try clear c13
      try clear c15
      try clear c17
      try clear c19
      try clear c21
      try clear c27
      try clear c28
      try clear c33
      try clear c34
      try clear c35
      try clear c38
      try clear c39
      try clear c40
      try clear c41
      try clear c43
      try clear c44
      try clear c47
      try clear c48
      try clear c49
      try clear c51
      try clear c52
      try clear hcz13_0
      try clear hcz15_0
      try clear hcz22_0
      try clear hcz23_0
      try clear hcz29_0
      try clear hcz36_0
      try clear hcz42_0
      try clear hcz45_0
      try clear hcz50_0
      try clear hcz53_0
      try clear hcz5_0
      try clear hfz13_0
      try clear hfz15_0
      try clear hfz22_0
      try clear hfz23_0
      try clear hfz29_0
      try clear hfz36_0
      try clear hfz42_0
      try clear hfz45_0
      try clear hfz50_0
      try clear hfz53_0
      try clear hfz5_0
      obtain ⟨kq, x40_10, rfl, HA, HJ10, HO_796000, HO_800000, HO_805000, BK786, BK795, BK799, BK804, HB⟩ := hcut
      cases kq with
      | zero => exact absurd HA.out (by simp [laws_FnExactLastWords.j0])
      | succ kj10 =>
        have H := HA.out
        clear HA
        simp only [laws_FnExactLastWords.j0] at H
        by_cases c55 : x40_10 = true
        · subst c55
          have H1 : (some false) = some r := by rw [if_pos rfl] at H; exact H
          clear H
          have H := H1
          clear H1
          obtain rfl := Option.some.inj H
          go_wp2
          go_ret
          exact ⟨by first | rfl | (simp [errW_none, errW_some] <;> rfl) | (simp [*, errW_none, errW_some] <;> rfl), by repeat (first | (with_reducible first | exact HB.out | apply below_alloc | apply pw_below_drewN | apply below_drew1 | refine below_set ?_ GE786.out | refine below_set ?_ GE795.out | refine below_set ?_ GE799.out | refine below_set ?_ GE804.out) | exact HB.out)⟩
        · replace c55 := Bool.eq_false_iff.mpr c55
          subst c55
          have H1 : ((laws_toTrie.f kj10 l0_0).bind fun t806 => ((laws_eqTrie.f kj10 t796 t806).bind fun t809 => (if t809 = true then ((laws_markTrie.f kj10 t796 1).bind fun bt810 => (if bt810.1 < 0 then (laws_FnExactLastWords.j1 kj10 t794 true l0_0 t791 t800) else ((laws_eqTrie.f kj10 t800 t791).bind fun t812 => (if t812 = true then (laws_FnExactLastWords.j1 kj10 t794 (t803 != t794) l0_0 t791 t800) else (laws_FnExactLastWords.j1 kj10 t794 true l0_0 t791 t800))))) else (some false)))) = some r := by rw [if_neg (show ¬ (false = true) by decide)] at H; exact H
          clear H
          have H := H1
          clear H1
          replace H := Option.bind_eq_some_iff.mp H
          obtain ⟨t806, A560, H⟩ := H
          replace H : ((laws_eqTrie.f kj10 t796 t806).bind fun t809 => (if t809 = true then ((laws_markTrie.f kj10 t796 1).bind fun bt810 => (if bt810.1 < 0 then (laws_FnExactLastWords.j1 kj10 t794 true l0_0 t791 t800) else ((laws_eqTrie.f kj10 t800 t791).bind fun t812 => (if t812 = true then (laws_FnExactLastWords.j1 kj10 t794 (t803 != t794) l0_0 t791 t800) else (laws_FnExactLastWords.j1 kj10 t794 true l0_0 t791 t800))))) else (some false))) = some r := H
          have A56 := Aside0.mk A560
          clear A560
          replace H := Option.bind_eq_some_iff.mp H
          obtain ⟨t809, A570, H⟩ := H
          replace H : (if t809 = true then ((laws_markTrie.f kj10 t796 1).bind fun bt810 => (if bt810.1 < 0 then (laws_FnExactLastWords.j1 kj10 t794 true l0_0 t791 t800) else ((laws_eqTrie.f kj10 t800 t791).bind fun t812 => (if t812 = true then (laws_FnExactLastWords.j1 kj10 t794 (t803 != t794) l0_0 t791 t800) else (laws_FnExactLastWords.j1 kj10 t794 true l0_0 t791 t800))))) else (some false)) = some r := H
          have A57 := Aside0.mk A570
          clear A570
          by_cases c58 : t809 = true
          · subst c58
            have H1 : ((laws_markTrie.f kj10 t796 1).bind fun bt810 => (if bt810.1 < 0 then (laws_FnExactLastWords.j1 kj10 t794 true l0_0 t791 t800) else ((laws_eqTrie.f kj10 t800 t791).bind fun t812 => (if t812 = true then (laws_FnExactLastWords.j1 kj10 t794 (t803 != t794) l0_0 t791 t800) else (laws_FnExactLastWords.j1 kj10 t794 true l0_0 t791 t800))))) = some r := by rw [if_pos rfl] at H; exact H
            clear H
            have H := H1
            clear H1
            replace H := Option.bind_eq_some_iff.mp H
            obtain ⟨⟨t810, t811⟩, A590, H⟩ := H
            replace H : (if t810 < 0 then (laws_FnExactLastWords.j1 kj10 t794 true l0_0 t791 t800) else ((laws_eqTrie.f kj10 t800 t791).bind fun t812 => (if t812 = true then (laws_FnExactLastWords.j1 kj10 t794 (t803 != t794) l0_0 t791 t800) else (laws_FnExactLastWords.j1 kj10 t794 true l0_0 t791 t800)))) = some r := H
            have A59 := Aside0.mk A590
            clear A590
            have HC60 := Aside0.mk H
            clear H
            try go_wp2
            have n0_ := Aside0.mk (Kd.R_drew HO_796000.out)
            have n1_ := Aside0.mk (Kd.R_drew HO_800000.out)
            have n2_ := Aside0.mk (Kd.R_drew HO_805000.out)
            have n3_ := Aside0.mk (blk_drew BK786.out)
            have n4_ := Aside0.mk (blk_drew BK795.out)
            have n5_ := Aside0.mk (blk_drew BK799.out)
            have n6_ := Aside0.mk (blk_drew BK804.out)
            have n7_ := Aside0.mk (below_drew1 HB.out)
            clear HO_796000
            clear HO_800000
            clear HO_805000
            clear BK786
            clear BK795
            clear BK799
            clear BK804
            clear HB
            have HO_796000 := n0_
            have HO_800000 := n1_
            have HO_805000 := n2_
            have BK786 := n3_
            have BK795 := n4_
            have BK799 := n5_
            have BK804 := n6_
            have HB := n7_
            clear n0_ n1_ n2_ n3_ n4_ n5_ n6_ n7_
            refine start_ (n := 5) (S := fun w' => w'.cell? ⟨gb799, 0, none⟩ = some (.slice Ao26 t796.length co26) ∧ w'.cell? ⟨gb786, 0, none⟩ = some (.slice A0_0 l0_0.length c0_0)) (ds := []) #[false, false, false, false, false] (by kernel_rfl) rfl rfl ⟨(blk_cell BK799.out 0).trans rfl, (blk_cell BK786.out 0).trans rfl⟩ (fun hHeld => ?_)
            generalize wc.drew = w61 at HO_796000 HO_800000 HO_805000 BK786 BK795 BK799 BK804 HB hHeld ⊢
            refine take_ (i := 0) (N := some 41) (v := ?_) (a' := ?_) #[true, false, false, false, false] rfl rfl (by kernel_rfl) (fun _ _ _ h => h) (Or.inl ⟨by rfl, ?_⟩) hHeld ?_ ?_
            rotate_left
            · rintro w' ⟨s0, s1⟩
              go_simp
              with_reducible rfl
            rotate_left
            · simp only [Act.put, List.setIfInBounds_toArray, List.set_cons_zero, List.set_cons_succ, i64_w, i32_w]
              rfl
            refine take_ (i := 1) (N := some 42) (v := ?_) (a' := ?_) #[true, true, false, false, false] rfl rfl (by kernel_rfl) (fun _ _ _ h => h) (Or.inl ⟨by rfl, ?_⟩) hHeld ?_ ?_
            rotate_left
            · rintro w' ⟨s0, s1⟩
              go_simp
              with_reducible rfl
            rotate_left
            · simp only [Act.put, List.setIfInBounds_toArray, List.set_cons_zero, List.set_cons_succ, i64_w, i32_w]
              rfl
            refine one_ (i := 2) (N := some 43) #[true, true, true, false, false] rfl rfl (by kernel_rfl) (by decide) (fun K hK => ?_)
            refine goes_ Try.func17 (by kernel_rfl) rfl #[.agg #[.slice A0_0 l0_0.length c0_0]] (by rfl) rfl rfl (by (try simp only [List.map_toArray, List.map_cons, List.map_nil]); first | done | rfl | (simp only [List.length_drop, List.length_take]; rfl)) ?_
            with_reducible refine (laws_toTrie.calls kj10 _ _ l0_0 t806 _ ?side1 ?side2 A56.out).mono ?_
            (case side1 => repeat (first | exact (Kd.C_below HR0_0.out HB.out) | (with_reducible refine Kd.C_alloc ?_ _) | (with_reducible refine Kd.C_drewN ?_ _) | (with_reducible refine Kd.C_drew ?_)))
            (case side2 => exact HC0_0.out)
            rintro e w62 ⟨v807, rfl, ho0, hb⟩
            refine ⟨_, rfl, ?_⟩
            have n0_ := Aside0.mk (Kd.R_elder' (by (with_reducible repeat (first | apply Kd.R_alloc | apply Kd.R_drewN | apply Kd.R_drew)); exact HO_796000.out) (Kd.R_base ho0) hb)
            have n1_ := Aside0.mk (Kd.R_elder' (by (with_reducible repeat (first | apply Kd.R_alloc | apply Kd.R_drewN | apply Kd.R_drew)); exact HO_800000.out) (Kd.R_base ho0) hb)
            have n2_ := Aside0.mk (Kd.R_elder' (by (with_reducible repeat (first | apply Kd.R_alloc | apply Kd.R_drewN | apply Kd.R_drew)); exact HO_805000.out) (Kd.R_base ho0) hb)
            have n3_ := Aside0.mk (Kd.R_lower (Kd.R_new' (Kd.R_new' (Kd.R_new' ho0 (Kd.R_lt (by (with_reducible repeat (first | apply Kd.R_alloc | apply Kd.R_drewN | apply Kd.R_drew)); exact HO_796000.out))) (Kd.R_lt (by (with_reducible repeat (first | apply Kd.R_alloc | apply Kd.R_drewN | apply Kd.R_drew)); exact HO_800000.out))) (Kd.R_lt (by (with_reducible repeat (first | apply Kd.R_alloc | apply Kd.R_drewN | apply Kd.R_drew)); exact HO_805000.out))) (below_size (by repeat (first | (with_reducible first | exact HB.out | apply below_alloc | apply pw_below_drewN | apply below_drew1 | refine below_set ?_ GE786.out | refine below_set ?_ GE795.out | refine below_set ?_ GE799.out | refine below_set ?_ GE804.out) | exact HB.out))))
            have n4_ := Aside0.mk (blk_below (g := gb786) (o := .cells #[.slice A0_0 l0_0.length c0_0] 24 (0, 0)) (by (with_reducible repeat (first | refine blk_drewN ?_ _ | refine blk_drew ?_ | refine blk_alloc ?_ _)); exact BK786.out) hb)
            have n5_ := Aside0.mk (blk_below (g := gb795) (o := .cells #[.slice Ao20 t791.length co20] 30 (0, 0)) (by (with_reducible repeat (first | refine blk_drewN ?_ _ | refine blk_drew ?_ | refine blk_alloc ?_ _)); exact BK795.out) hb)
            have n6_ := Aside0.mk (blk_below (g := gb799) (o := .cells #[.slice Ao26 t796.length co26] 30 (0, 0)) (by (with_reducible repeat (first | refine blk_drewN ?_ _ | refine blk_drew ?_ | refine blk_alloc ?_ _)); exact BK799.out) hb)
            have n7_ := Aside0.mk (blk_below (g := gb804) (o := .cells #[.slice Ao32 t800.length co32] 30 (0, 0)) (by (with_reducible repeat (first | refine blk_drewN ?_ _ | refine blk_drew ?_ | refine blk_alloc ?_ _)); exact BK804.out) hb)
            have n8_ := Aside0.mk (below_step (by repeat (first | (with_reducible first | exact HB.out | apply below_alloc | apply pw_below_drewN | apply below_drew1 | refine below_set ?_ GE786.out | refine below_set ?_ GE795.out | refine below_set ?_ GE799.out | refine below_set ?_ GE804.out) | exact HB.out)) hb)
            clear HO_796000
            clear HO_800000
            clear HO_805000
            clear BK786
            clear BK795
            clear BK799
            clear BK804
            clear HB
            have HO_796000 := n0_
            have HO_800000 := n1_
            have HO_805000 := n2_
            have HO808 := n3_
            have BK786 := n4_
            have BK795 := n5_
            have BK799 := n6_
            have BK804 := n7_
            have HB := n8_
            clear n0_ n1_ n2_ n3_ n4_ n5_ n6_ n7_ n8_
            (try clear hb)
            (try clear hb2)
            (try clear hk)
            (try clear hi)
            (try clear ho0)
            obtain ⟨Ao63, co63, eo63⟩ := Kd.R_slice HO808.out
            (first | subst eo63 | (injection eo63 with f1_ f2_ f3_; have f4_ := f1_.symm; have f5_ := f3_.symm; clear f1_ f2_ f3_; subst f4_; subst f5_))
            refine hK.out _ _ ⟨(blk_cell BK799.out 0).trans rfl, (blk_cell BK786.out 0).trans rfl⟩ (fun hHeld => ?_)
            clear hK K
            refine norm_ (a' := ?_) ?_ ?_
            rotate_left
            · show Act.put _ (some 43) _ = _
              simp only [Act.put, List.setIfInBounds_toArray, List.set_cons_zero, List.set_cons_succ, i64_w, i32_w]
              rfl
            refine one_ (i := 3) (N := some 44) #[true, true, true, true, false] rfl rfl (by kernel_rfl) (by decide) (fun K hK => ?_)
            refine goes_ Try.func19 (by kernel_rfl) rfl #[.agg #[.slice Ao26 t796.length co26], .agg #[.slice Ao63 t806.length co63]] (by rfl) rfl rfl (by (try simp only [List.map_toArray, List.map_cons, List.map_nil]); first | done | rfl | (simp only [List.length_drop, List.length_take]; rfl)) ?_
            with_reducible refine (laws_eqTrie.calls kj10 _ _ t796 _ _ t806 true _ ?side1 ?side2 ?side3 ?side4 A57.out).mono ?_
            (case side1 => repeat (first | exact (Kd.R_reads' HO_800000.out).2.2 | (with_reducible refine Kd.C_alloc ?_ _) | (with_reducible refine Kd.C_drewN ?_ _) | (with_reducible refine Kd.C_drew ?_)))
            (case side2 => exact (Kd.R_reads' HO_800000.out).2.1)
            (case side3 => repeat (first | exact (Kd.R_reads' HO808.out).2.2 | (with_reducible refine Kd.C_alloc ?_ _) | (with_reducible refine Kd.C_drewN ?_ _) | (with_reducible refine Kd.C_drew ?_)))
            (case side4 => exact (Kd.R_reads' HO808.out).2.1)
            rintro e w64 ⟨rfl, hb⟩
            refine ⟨_, rfl, ?_⟩
            have n0_ := Aside0.mk (Kd.R_below (by (with_reducible repeat (first | apply Kd.R_alloc | apply Kd.R_drewN | apply Kd.R_drew)); exact HO_796000.out) hb)
            have n1_ := Aside0.mk (Kd.R_below (by (with_reducible repeat (first | apply Kd.R_alloc | apply Kd.R_drewN | apply Kd.R_drew)); exact HO_800000.out) hb)
            have n2_ := Aside0.mk (Kd.R_below (by (with_reducible repeat (first | apply Kd.R_alloc | apply Kd.R_drewN | apply Kd.R_drew)); exact HO_805000.out) hb)
            have n3_ := Aside0.mk (Kd.R_below (by (with_reducible repeat (first | apply Kd.R_alloc | apply Kd.R_drewN | apply Kd.R_drew)); exact HO808.out) hb)
            have n4_ := Aside0.mk (blk_below (g := gb786) (o := .cells #[.slice A0_0 l0_0.length c0_0] 24 (0, 0)) (by (with_reducible repeat (first | refine blk_drewN ?_ _ | refine blk_drew ?_ | refine blk_alloc ?_ _)); exact BK786.out) hb)
            have n5_ := Aside0.mk (blk_below (g := gb795) (o := .cells #[.slice Ao20 t791.length co20] 30 (0, 0)) (by (with_reducible repeat (first | refine blk_drewN ?_ _ | refine blk_drew ?_ | refine blk_alloc ?_ _)); exact BK795.out) hb)
            have n6_ := Aside0.mk (blk_below (g := gb799) (o := .cells #[.slice Ao26 t796.length co26] 30 (0, 0)) (by (with_reducible repeat (first | refine blk_drewN ?_ _ | refine blk_drew ?_ | refine blk_alloc ?_ _)); exact BK799.out) hb)
            have n7_ := Aside0.mk (blk_below (g := gb804) (o := .cells #[.slice Ao32 t800.length co32] 30 (0, 0)) (by (with_reducible repeat (first | refine blk_drewN ?_ _ | refine blk_drew ?_ | refine blk_alloc ?_ _)); exact BK804.out) hb)
            have n8_ := Aside0.mk (below_step (by repeat (first | (with_reducible first | exact HB.out | apply below_alloc | apply pw_below_drewN | apply below_drew1 | refine below_set ?_ GE786.out | refine below_set ?_ GE795.out | refine below_set ?_ GE799.out | refine below_set ?_ GE804.out) | exact HB.out)) hb)
            clear HO_796000
            clear HO_800000
            clear HO_805000
            clear HO808
            clear BK786
            clear BK795
            clear BK799
            clear BK804
            clear HB
            have HO_796000 := n0_
            have HO_800000 := n1_
            have HO_805000 := n2_
            have HO808 := n3_
            have BK786 := n4_
            have BK795 := n5_
            have BK799 := n6_
            have BK804 := n7_
            have HB := n8_
            clear n0_ n1_ n2_ n3_ n4_ n5_ n6_ n7_ n8_
            (try clear hb)
            (try clear hb2)
            (try clear hk)
            (try clear hi)
            refine hK.out _ _ ⟨(blk_cell BK799.out 0).trans rfl, (blk_cell BK786.out 0).trans rfl⟩ (fun hHeld => ?_)
            clear hK K
            refine norm_ (a' := ?_) ?_ ?_
            rotate_left
            · show Act.put _ (some 44) _ = _
              simp only [Act.put, List.setIfInBounds_toArray, List.set_cons_zero, List.set_cons_succ, i64_w, i32_w]
              rfl
            refine pure_ (i := 4) (N := some 45) (v := ?_) (a' := ?_) #[true, true, true, true, true] rfl rfl (by kernel_rfl) (fun _ _ _ h => h) (Or.inl ⟨by rfl, ?_⟩) ?_ ?_
            rotate_left
            · intro w'
              go_simp
              with_reducible rfl
            rotate_left
            · simp only [Act.put, List.setIfInBounds_toArray, List.set_cons_zero, List.set_cons_succ, i64_w, i32_w]
              rfl
            refine done_ (by kernel_rfl) ?_
            have hnb65 := NB799_786.out
            have hnc65 := NB786_799.out
            have hnb66 := NB799_795.out
            have hnc66 := NB795_799.out
            have hnb67 := NB799_804.out
            have hnc67 := NB804_799.out
            have hcz68_0 : w64.cell? ⟨gb799, 0, none⟩ = some (.slice Ao26 t796.length co26) := (blk_cell BK799.out 0).trans rfl
            have hfz68_0 := blk_frozen BK799.out 0
            go_upto_region 14 with (first | ((with_reducible refine gate_callee (f := 33) rfl ?_); refine goesL_ (some 48) rfl rfl Try.func33 (by kernel_rfl) rfl #[.agg #[.slice Ao26 t796.length co26], .int .i64 1] rfl (by (try simp only [List.map_toArray, List.map_cons, List.map_nil]); first | done | rfl | (simp only [List.length_drop, List.length_take]; rfl)) ?_; (with_reducible refine (laws_markTrie.calls kj10 (fun k_ => some k_ = (.slice Ao26 t796.length co26 : Value).ownBlock) (.slice Ao26 t796.length co26) t796 1 t810 t811 w _ ?side1 ?side2 A59.out).mono ?_); (case side1 => repeat (first | (with_reducible first | exact HB.out | apply below_alloc | apply pw_below_drewN | apply below_drew1 | refine below_set ?_ GE786.out | refine below_set ?_ GE795.out | refine below_set ?_ GE799.out | refine below_set ?_ GE804.out) | exact HB.out)); (case side2 => exact Kd.R_tight rfl HO_800000.out); rintro e w69 ⟨rfl, hy0, hb, hkp⟩; refine ⟨_, rfl, ?_⟩; have n0_ := Aside0.mk (Kd.R_mono (ok' := fun k_ => some k_ ≠ (.slice Ao26 t796.length co26 : Value).ownBlock ∧ some k_ ≠ (.slice Ao32 t800.length co32 : Value).ownBlock ∧ some k_ ≠ (.slice Ao63 t806.length co63 : Value).ownBlock) (Kd.R_keptB (HO_796000.out) hkp (fun k_ hk_ hs_ => (hk_.1.1) hs_)) (fun k_ hk_ => ⟨hk_.1.1.1, hk_.1.1.2, hk_.1.2⟩)); have n1_ := Aside0.mk (Kd.R_reok rfl hy0 (fun k_ e_ => HO_800000.out.1 k_ e_)); have n2_ := Aside0.mk (Kd.R_mono (ok' := fun k_ => some k_ ≠ (.slice Ao20 t791.length co20 : Value).ownBlock ∧ some k_ ≠ (.slice Ao26 t796.length co26 : Value).ownBlock ∧ some k_ ≠ (.slice Ao63 t806.length co63 : Value).ownBlock) (Kd.R_keptB (HO_805000.out) hkp (fun k_ hk_ hs_ => (hk_.1.2) hs_)) (fun k_ hk_ => ⟨hk_.1.1.1, hk_.1.1.2, hk_.1.2⟩)); have n3_ := Aside0.mk (blk_kept (by (with_reducible repeat (first | refine blk_drewN ?_ _ | refine blk_drew ?_ | refine blk_alloc ?_ _)); exact BK786.out) hkp (fun hs_ => (fun e_ => (Kd.R_ne HO_800000.out BK786.out (by decide)) e_) hs_)); have n4_ := Aside0.mk (blk_kept (by (with_reducible repeat (first | refine blk_drewN ?_ _ | refine blk_drew ?_ | refine blk_alloc ?_ _)); exact BK795.out) hkp (fun hs_ => (fun e_ => (Kd.R_ne HO_800000.out BK795.out (by decide)) e_) hs_)); have n5_ := Aside0.mk (blk_kept (by (with_reducible repeat (first | refine blk_drewN ?_ _ | refine blk_drew ?_ | refine blk_alloc ?_ _)); exact BK799.out) hkp (fun hs_ => (fun e_ => (Kd.R_ne HO_800000.out BK799.out (by decide)) e_) hs_)); have n6_ := Aside0.mk (blk_kept (by (with_reducible repeat (first | refine blk_drewN ?_ _ | refine blk_drew ?_ | refine blk_alloc ?_ _)); exact BK804.out) hkp (fun hs_ => (fun e_ => (Kd.R_ne HO_800000.out BK804.out (by decide)) e_) hs_)); have n7_ := Aside0.mk (Kd.R_mono (ok' := fun k_ => some k_ ≠ (.slice Ao20 t791.length co20 : Value).ownBlock ∧ some k_ ≠ (.slice Ao26 t796.length co26 : Value).ownBlock ∧ some k_ ≠ (.slice Ao32 t800.length co32 : Value).ownBlock) (Kd.R_keptB (HO808.out) hkp (fun k_ hk_ hs_ => (hk_.1.2) hs_)) (fun k_ hk_ => ⟨hk_.1.1.1.2, hk_.1.1.2, hk_.1.2⟩)); have n8_ := Aside0.mk (hb); clear HO_796000; clear HO_800000; clear HO_805000; clear BK786; clear BK795; clear BK799; clear BK804; clear HO808; clear HB; have HO_796000 := n0_; have HO_800000 := n1_; have HO_805000 := n2_; have BK786 := n3_; have BK795 := n4_; have BK799 := n5_; have BK804 := n6_; have HO808 := n7_; have HB := n8_; clear n0_ n1_ n2_ n3_ n4_ n5_ n6_ n7_ n8_; (try clear hb); (try clear hkp); (try clear hy0)))
            (try simp only [Act.put, List.setIfInBounds_toArray, List.set_cons_zero, List.set_cons_succ])
            go_cut [61] (fun v61 wc => ∃ (kq : Nat) (x61_59 : Bool), v61 = .bool x61_59 ∧ Aside0 (laws_FnExactLastWords.j1 kq t794 x61_59 l0_0 t791 t800 = some r) ∧ Aside0 (kq ≤ kj10) ∧ Aside0 (Kd.R k86 86 wc w.heap.size (fun k_ => some k_ ≠ ((.slice Ao26 t796.length co26) : Value).ownBlock ∧ some k_ ≠ ((.slice Ao32 t800.length co32) : Value).ownBlock) (.slice Ao20 t791.length co20) t791) ∧ Aside0 (Kd.R k86 86 wc w.heap.size (fun k_ => some k_ ≠ ((.slice Ao20 t791.length co20) : Value).ownBlock ∧ some k_ ≠ ((.slice Ao32 t800.length co32) : Value).ownBlock) (.slice Ao26 t796.length co26) t811) ∧ Aside0 (Kd.R k86 86 wc w.heap.size (fun k_ => some k_ ≠ ((.slice Ao20 t791.length co20) : Value).ownBlock ∧ some k_ ≠ ((.slice Ao26 t796.length co26) : Value).ownBlock) (.slice Ao32 t800.length co32) t800) ∧ Aside0 (wc.heap[gb786]? = some (.cells #[(.slice A0_0 l0_0.length c0_0)] 24 (0, 0))) ∧ Aside0 (wc.heap[gb795]? = some (.cells #[(.slice Ao20 t791.length co20)] 30 (0, 0))) ∧ Aside0 (wc.heap[gb799]? = some (.cells #[(.slice Ao26 t796.length co26)] 30 (0, 0))) ∧ Aside0 (wc.heap[gb804]? = some (.cells #[(.slice Ao32 t800.length co32)] 30 (0, 0))) ∧ Aside0 (Below w.heap.size w wc))
            case first =>
              have H := HC60.out
              clear HC60
              by_cases c70 : t810 < 0
              · rw [if_pos c70] at H
                have c70b0 : decide (t810 < 0) = true := decide_eq_true c70
                clear c70
                (first | rw [c70b0] | (simp only [i64_w, i32_w]; rw [c70b0]) | skip)
                have H' := Aside0.mk H
                clear H
                go_wp2
                go_meet
                case rel => exact ⟨_, (true), (by first | rfl | (simp; done) | (simp [*]; done)), H', ⟨by have := HJ10.out; first | omega | exact Nat.le_refl _⟩, ⟨by (with_reducible repeat (first | apply Kd.R_alloc | apply Kd.R_drewN | apply Kd.R_drew)); exact Kd.R_mono HO_796000.out (fun _ hk => ⟨hk.1, hk.2.1⟩)⟩, ⟨by (with_reducible repeat (first | apply Kd.R_alloc | apply Kd.R_drewN | apply Kd.R_drew)); exact Kd.R_mono HO_800000.out (fun _ hk => ⟨hk.1.1, hk.1.2⟩)⟩, ⟨by (with_reducible repeat (first | apply Kd.R_alloc | apply Kd.R_drewN | apply Kd.R_drew)); exact Kd.R_mono HO_805000.out (fun _ hk => ⟨hk.1, hk.2.1⟩)⟩, ⟨by (with_reducible repeat (first | refine blk_drewN ?_ _ | refine blk_drew ?_ | refine blk_alloc ?_ _)); exact BK786.out⟩, ⟨by (with_reducible repeat (first | refine blk_drewN ?_ _ | refine blk_drew ?_ | refine blk_alloc ?_ _)); exact BK795.out⟩, ⟨by (with_reducible repeat (first | refine blk_drewN ?_ _ | refine blk_drew ?_ | refine blk_alloc ?_ _)); exact BK799.out⟩, ⟨by (with_reducible repeat (first | refine blk_drewN ?_ _ | refine blk_drew ?_ | refine blk_alloc ?_ _)); exact BK804.out⟩, ⟨by repeat (first | (with_reducible first | exact HB.out | apply below_alloc | apply pw_below_drewN | apply below_drew1 | refine below_set ?_ GE786.out | refine below_set ?_ GE795.out | refine below_set ?_ GE799.out | refine below_set ?_ GE804.out) | exact HB.out)⟩⟩
              · rw [if_neg c70] at H
                have c70b0 : decide (t810 < 0) = false := decide_eq_false c70
                clear c70
                (first | rw [c70b0] | (simp only [i64_w, i32_w]; rw [c70b0]) | skip)
                replace H := Option.bind_eq_some_iff.mp H
                obtain ⟨t812, A710, H⟩ := H
                replace H : (if t812 = true then (laws_FnExactLastWords.j1 kj10 t794 (t803 != t794) l0_0 t791 t800) else (laws_FnExactLastWords.j1 kj10 t794 true l0_0 t791 t800)) = some r := H
                have A71 := Aside0.mk A710
                clear A710
                by_cases c72 : t812 = true
                · subst c72
                  have H1 : (laws_FnExactLastWords.j1 kj10 t794 (t803 != t794) l0_0 t791 t800) = some r := by rw [if_pos rfl] at H; exact H
                  clear H
                  have H := H1
                  clear H1
                  have H' := Aside0.mk H
                  clear H
                  have hnb73 := NB804_786.out
                  have hnc73 := NB786_804.out
                  have hnb74 := NB804_795.out
                  have hnc74 := NB795_804.out
                  have hnb75 := NB804_799.out
                  have hnc75 := NB799_804.out
                  have hcz76_0 : w69.cell? ⟨gb804, 0, none⟩ = some (.slice Ao32 t800.length co32) := (blk_cell BK804.out 0).trans rfl
                  have hfz76_0 := blk_frozen BK804.out 0
                  have hnb77 := NB795_786.out
                  have hnc77 := NB786_795.out
                  have hnb78 := NB795_799.out
                  have hnc78 := NB799_795.out
                  have hcz79_0 : w69.cell? ⟨gb795, 0, none⟩ = some (.slice Ao20 t791.length co20) := (blk_cell BK795.out 0).trans rfl
                  have hfz79_0 := blk_frozen BK795.out 0
                  go_wp2_with (first | (go_at_call 19; (with_reducible refine (laws_eqTrie.calls kj10 _ _ t800 _ _ t791 true _ ?side1 ?side2 ?side3 ?side4 A71.out).mono ?_); (case side1 => repeat (first | exact (Kd.R_reads' HO_805000.out).2.2 | (with_reducible refine Kd.C_alloc ?_ _) | (with_reducible refine Kd.C_drewN ?_ _) | (with_reducible refine Kd.C_drew ?_))); (case side2 => exact (Kd.R_reads' HO_805000.out).2.1); (case side3 => repeat (first | exact (Kd.R_reads' HO_796000.out).2.2 | (with_reducible refine Kd.C_alloc ?_ _) | (with_reducible refine Kd.C_drewN ?_ _) | (with_reducible refine Kd.C_drew ?_))); (case side4 => exact (Kd.R_reads' HO_796000.out).2.1); rintro e w80 ⟨rfl, hb⟩; have n0_ := Aside0.mk (Kd.R_below (by (with_reducible repeat (first | apply Kd.R_alloc | apply Kd.R_drewN | apply Kd.R_drew)); exact HO_796000.out) hb); have n1_ := Aside0.mk (Kd.R_below (by (with_reducible repeat (first | apply Kd.R_alloc | apply Kd.R_drewN | apply Kd.R_drew)); exact HO_800000.out) hb); have n2_ := Aside0.mk (Kd.R_below (by (with_reducible repeat (first | apply Kd.R_alloc | apply Kd.R_drewN | apply Kd.R_drew)); exact HO_805000.out) hb); have n3_ := Aside0.mk (Kd.R_below (by (with_reducible repeat (first | apply Kd.R_alloc | apply Kd.R_drewN | apply Kd.R_drew)); exact HO808.out) hb); have n4_ := Aside0.mk (blk_below (g := gb786) (o := .cells #[.slice A0_0 l0_0.length c0_0] 24 (0, 0)) (by (with_reducible repeat (first | refine blk_drewN ?_ _ | refine blk_drew ?_ | refine blk_alloc ?_ _)); exact BK786.out) hb); have n5_ := Aside0.mk (blk_below (g := gb795) (o := .cells #[.slice Ao20 t791.length co20] 30 (0, 0)) (by (with_reducible repeat (first | refine blk_drewN ?_ _ | refine blk_drew ?_ | refine blk_alloc ?_ _)); exact BK795.out) hb); have n6_ := Aside0.mk (blk_below (g := gb799) (o := .cells #[.slice Ao26 t796.length co26] 30 (0, 0)) (by (with_reducible repeat (first | refine blk_drewN ?_ _ | refine blk_drew ?_ | refine blk_alloc ?_ _)); exact BK799.out) hb); have n7_ := Aside0.mk (blk_below (g := gb804) (o := .cells #[.slice Ao32 t800.length co32] 30 (0, 0)) (by (with_reducible repeat (first | refine blk_drewN ?_ _ | refine blk_drew ?_ | refine blk_alloc ?_ _)); exact BK804.out) hb); have n8_ := Aside0.mk (below_step (by repeat (first | (with_reducible first | exact HB.out | apply below_alloc | apply pw_below_drewN | apply below_drew1 | refine below_set ?_ GE786.out | refine below_set ?_ GE795.out | refine below_set ?_ GE799.out | refine below_set ?_ GE804.out) | exact HB.out)) hb); clear HO_796000; clear HO_800000; clear HO_805000; clear HO808; clear BK786; clear BK795; clear BK799; clear BK804; clear HB; have HO_796000 := n0_; have HO_800000 := n1_; have HO_805000 := n2_; have HO808 := n3_; have BK786 := n4_; have BK795 := n5_; have BK799 := n6_; have BK804 := n7_; have HB := n8_; clear n0_ n1_ n2_ n3_ n4_ n5_ n6_ n7_ n8_; (try clear hb); (try clear hb2); (try clear hk); (try clear hi)))
                  go_meet
                  case rel => exact ⟨_, ((t803 != t794)), (by first | rfl | (simp; done) | (simp [*]; done)), H', ⟨by have := HJ10.out; first | omega | exact Nat.le_refl _⟩, ⟨by (with_reducible repeat (first | apply Kd.R_alloc | apply Kd.R_drewN | apply Kd.R_drew)); exact Kd.R_mono HO_796000.out (fun _ hk => ⟨hk.1, hk.2.1⟩)⟩, ⟨by (with_reducible repeat (first | apply Kd.R_alloc | apply Kd.R_drewN | apply Kd.R_drew)); exact Kd.R_mono HO_800000.out (fun _ hk => ⟨hk.1.1, hk.1.2⟩)⟩, ⟨by (with_reducible repeat (first | apply Kd.R_alloc | apply Kd.R_drewN | apply Kd.R_drew)); exact Kd.R_mono HO_805000.out (fun _ hk => ⟨hk.1, hk.2.1⟩)⟩, ⟨by (with_reducible repeat (first | refine blk_drewN ?_ _ | refine blk_drew ?_ | refine blk_alloc ?_ _)); exact BK786.out⟩, ⟨by (with_reducible repeat (first | refine blk_drewN ?_ _ | refine blk_drew ?_ | refine blk_alloc ?_ _)); exact BK795.out⟩, ⟨by (with_reducible repeat (first | refine blk_drewN ?_ _ | refine blk_drew ?_ | refine blk_alloc ?_ _)); exact BK799.out⟩, ⟨by (with_reducible repeat (first | refine blk_drewN ?_ _ | refine blk_drew ?_ | refine blk_alloc ?_ _)); exact BK804.out⟩, ⟨by repeat (first | (with_reducible first | exact HB.out | apply below_alloc | apply pw_below_drewN | apply below_drew1 | refine below_set ?_ GE786.out | refine below_set ?_ GE795.out | refine below_set ?_ GE799.out | refine below_set ?_ GE804.out) | exact HB.out)⟩⟩
                · replace c72 := Bool.eq_false_iff.mpr c72
                  subst c72
                  have H1 : (laws_FnExactLastWords.j1 kj10 t794 true l0_0 t791 t800) = some r := by rw [if_neg (show ¬ (false = true) by decide)] at H; exact H
                  clear H
                  have H := H1
                  clear H1
                  have H' := Aside0.mk H
                  clear H
                  have hnb81 := NB804_786.out
                  have hnc81 := NB786_804.out
                  have hnb82 := NB804_795.out
                  have hnc82 := NB795_804.out
                  have hnb83 := NB804_799.out
                  have hnc83 := NB799_804.out
                  have hcz84_0 : w69.cell? ⟨gb804, 0, none⟩ = some (.slice Ao32 t800.length co32) := (blk_cell BK804.out 0).trans rfl
                  have hfz84_0 := blk_frozen BK804.out 0
                  have hnb85 := NB795_786.out
                  have hnc85 := NB786_795.out
                  have hnb86 := NB795_799.out
                  have hnc86 := NB799_795.out
                  have hcz87_0 : w69.cell? ⟨gb795, 0, none⟩ = some (.slice Ao20 t791.length co20) := (blk_cell BK795.out 0).trans rfl
                  have hfz87_0 := blk_frozen BK795.out 0
                  go_wp2_with (first | (go_at_call 19; (with_reducible refine (laws_eqTrie.calls kj10 _ _ t800 _ _ t791 false _ ?side1 ?side2 ?side3 ?side4 A71.out).mono ?_); (case side1 => repeat (first | exact (Kd.R_reads' HO_805000.out).2.2 | (with_reducible refine Kd.C_alloc ?_ _) | (with_reducible refine Kd.C_drewN ?_ _) | (with_reducible refine Kd.C_drew ?_))); (case side2 => exact (Kd.R_reads' HO_805000.out).2.1); (case side3 => repeat (first | exact (Kd.R_reads' HO_796000.out).2.2 | (with_reducible refine Kd.C_alloc ?_ _) | (with_reducible refine Kd.C_drewN ?_ _) | (with_reducible refine Kd.C_drew ?_))); (case side4 => exact (Kd.R_reads' HO_796000.out).2.1); rintro e w88 ⟨rfl, hb⟩; have n0_ := Aside0.mk (Kd.R_below (by (with_reducible repeat (first | apply Kd.R_alloc | apply Kd.R_drewN | apply Kd.R_drew)); exact HO_796000.out) hb); have n1_ := Aside0.mk (Kd.R_below (by (with_reducible repeat (first | apply Kd.R_alloc | apply Kd.R_drewN | apply Kd.R_drew)); exact HO_800000.out) hb); have n2_ := Aside0.mk (Kd.R_below (by (with_reducible repeat (first | apply Kd.R_alloc | apply Kd.R_drewN | apply Kd.R_drew)); exact HO_805000.out) hb); have n3_ := Aside0.mk (Kd.R_below (by (with_reducible repeat (first | apply Kd.R_alloc | apply Kd.R_drewN | apply Kd.R_drew)); exact HO808.out) hb); have n4_ := Aside0.mk (blk_below (g := gb786) (o := .cells #[.slice A0_0 l0_0.length c0_0] 24 (0, 0)) (by (with_reducible repeat (first | refine blk_drewN ?_ _ | refine blk_drew ?_ | refine blk_alloc ?_ _)); exact BK786.out) hb); have n5_ := Aside0.mk (blk_below (g := gb795) (o := .cells #[.slice Ao20 t791.length co20] 30 (0, 0)) (by (with_reducible repeat (first | refine blk_drewN ?_ _ | refine blk_drew ?_ | refine blk_alloc ?_ _)); exact BK795.out) hb); have n6_ := Aside0.mk (blk_below (g := gb799) (o := .cells #[.slice Ao26 t796.length co26] 30 (0, 0)) (by (with_reducible repeat (first | refine blk_drewN ?_ _ | refine blk_drew ?_ | refine blk_alloc ?_ _)); exact BK799.out) hb); have n7_ := Aside0.mk (blk_below (g := gb804) (o := .cells #[.slice Ao32 t800.length co32] 30 (0, 0)) (by (with_reducible repeat (first | refine blk_drewN ?_ _ | refine blk_drew ?_ | refine blk_alloc ?_ _)); exact BK804.out) hb); have n8_ := Aside0.mk (below_step (by repeat (first | (with_reducible first | exact HB.out | apply below_alloc | apply pw_below_drewN | apply below_drew1 | refine below_set ?_ GE786.out | refine below_set ?_ GE795.out | refine below_set ?_ GE799.out | refine below_set ?_ GE804.out) | exact HB.out)) hb); clear HO_796000; clear HO_800000; clear HO_805000; clear HO808; clear BK786; clear BK795; clear BK799; clear BK804; clear HB; have HO_796000 := n0_; have HO_800000 := n1_; have HO_805000 := n2_; have HO808 := n3_; have BK786 := n4_; have BK795 := n5_; have BK799 := n6_; have BK804 := n7_; have HB := n8_; clear n0_ n1_ n2_ n3_ n4_ n5_ n6_ n7_ n8_; (try clear hb); (try clear hb2); (try clear hk); (try clear hi)))
                  go_meet
                  case rel => exact ⟨_, (true), (by first | rfl | (simp; done) | (simp [*]; done)), H', ⟨by have := HJ10.out; first | omega | exact Nat.le_refl _⟩, ⟨by (with_reducible repeat (first | apply Kd.R_alloc | apply Kd.R_drewN | apply Kd.R_drew)); exact Kd.R_mono HO_796000.out (fun _ hk => ⟨hk.1, hk.2.1⟩)⟩, ⟨by (with_reducible repeat (first | apply Kd.R_alloc | apply Kd.R_drewN | apply Kd.R_drew)); exact Kd.R_mono HO_800000.out (fun _ hk => ⟨hk.1.1, hk.1.2⟩)⟩, ⟨by (with_reducible repeat (first | apply Kd.R_alloc | apply Kd.R_drewN | apply Kd.R_drew)); exact Kd.R_mono HO_805000.out (fun _ hk => ⟨hk.1, hk.2.1⟩)⟩, ⟨by (with_reducible repeat (first | refine blk_drewN ?_ _ | refine blk_drew ?_ | refine blk_alloc ?_ _)); exact BK786.out⟩, ⟨by (with_reducible repeat (first | refine blk_drewN ?_ _ | refine blk_drew ?_ | refine blk_alloc ?_ _)); exact BK795.out⟩, ⟨by (with_reducible repeat (first | refine blk_drewN ?_ _ | refine blk_drew ?_ | refine blk_alloc ?_ _)); exact BK799.out⟩, ⟨by (with_reducible repeat (first | refine blk_drewN ?_ _ | refine blk_drew ?_ | refine blk_alloc ?_ _)); exact BK804.out⟩, ⟨by repeat (first | (with_reducible first | exact HB.out | apply below_alloc | apply pw_below_drewN | apply below_drew1 | refine below_set ?_ GE786.out | refine below_set ?_ GE795.out | refine below_set ?_ GE799.out | refine below_set ?_ GE804.out) | exact HB.out)⟩⟩
            case rest =>
              clear HC60
              try clear c1
              try clear c2
              try clear p2
              try clear c3
              try clear c3b0
              try clear c4
              try clear c5
              try clear c6
              try clear c7
              try clear c8
              try clear c13
              try clear c15
              try clear c17
              try clear c19
              try clear c21
              try clear c27
              try clear c28
              try clear c33
              try clear c34
              try clear c35
              try clear c38
              try clear c39
              try clear c40
              try clear c41
              try clear c43
              try clear c44
              try clear c47
              try clear c48
              try clear c49
              try clear c51
              try clear c52
              try clear c55
              try clear c58
              try clear c65
              try clear c66
              try clear c67
              try clear c70
              try clear c70b0
              try clear c72
              try clear c73
              try clear c74
              try clear c75
              try clear c77
              try clear c78
              try clear c81
              try clear c82
              try clear c83
              try clear c85
              try clear c86
              try clear hcz13_0
              try clear hcz15_0
              try clear hcz22_0
              try clear hcz23_0
              try clear hcz29_0
              try clear hcz36_0
              try clear hcz42_0
              try clear hcz45_0
              try clear hcz50_0
              try clear hcz53_0
              try clear hcz5_0
              try clear hcz68_0
              try clear hcz76_0
              try clear hcz79_0
              try clear hcz84_0
              try clear hcz87_0
              try clear hfz13_0
              try clear hfz15_0
              try clear hfz22_0
              try clear hfz23_0
              try clear hfz29_0
              try clear hfz36_0
              try clear hfz42_0
              try clear hfz45_0
              try clear hfz50_0
              try clear hfz53_0
              try clear hfz5_0
              try clear hfz68_0
              try clear hfz76_0
              try clear hfz79_0
              try clear hfz84_0
              try clear hfz87_0
              try clear p2
              obtain ⟨kq, x61_59, rfl, HA, HJ59, HO_796000, HO_800000, HO_805000, BK786, BK795, BK799, BK804, HB⟩ := hcut
              have hl800000_59 := (Kd.R_reads' HO_800000.out).1
              rw [hl800000_59] at HO_800000
              (try simp only [hl800000_59])
              (try simp only [hl800000_59] at BK786)
              (try simp only [hl800000_59] at BK795)
              (try simp only [hl800000_59] at BK799)
              (try simp only [hl800000_59] at BK804)
              (try simp only [hl800000_59] at HO_796000)
              (try simp only [hl800000_59] at HO_805000)
              cases kq with
              | zero => exact absurd HA.out (by simp [laws_FnExactLastWords.j1])
              | succ kj59 =>
                have H := HA.out
                clear HA
                simp only [laws_FnExactLastWords.j1] at H
                by_cases c89 : x61_59 = true
                · subst c89
                  have H1 : (some false) = some r := by rw [if_pos rfl] at H; exact H
                  clear H
                  have H := H1
                  clear H1
                  obtain rfl := Option.some.inj H
                  go_wp2
                  go_ret
                  exact ⟨by first | rfl | (simp [errW_none, errW_some] <;> rfl) | (simp [*, errW_none, errW_some] <;> rfl), by repeat (first | (with_reducible first | exact HB.out | apply below_alloc | apply pw_below_drewN | apply below_drew1 | refine below_set ?_ GE786.out | refine below_set ?_ GE795.out | refine below_set ?_ GE799.out | refine below_set ?_ GE804.out) | exact HB.out)⟩
                · replace c89 := Bool.eq_false_iff.mpr c89
                  subst c89
                  have H1 : ((laws_markTrie.f kj59 t800 1).bind fun bt813 => ((laws_heldTrie.f kj59 bt813.2 1).bind fun t815 => (if t815 < 0 then (some false) else (if t815 = bt813.1 then ((laws_toTrie.f kj59 l0_0).bind fun t816 => ((impl_LastWords.f t816).bind fun bt819 => ((laws_eqTrie.f kj59 bt819.1 t791).bind fun t824 => (if t824 = true then (laws_FnExactLastWords.j2 kj59 bt813.1 (bt819.2 != t794) bt813.2) else (laws_FnExactLastWords.j2 kj59 bt813.1 true bt813.2))))) else (some false))))) = some r := by rw [if_neg (show ¬ (false = true) by decide)] at H; exact H
                  clear H
                  have H := H1
                  clear H1
                  replace H := Option.bind_eq_some_iff.mp H
                  obtain ⟨⟨t813, t814⟩, A900, H⟩ := H
                  replace H : ((laws_heldTrie.f kj59 t814 1).bind fun t815 => (if t815 < 0 then (some false) else (if t815 = t813 then ((laws_toTrie.f kj59 l0_0).bind fun t816 => ((impl_LastWords.f t816).bind fun bt819 => ((laws_eqTrie.f kj59 bt819.1 t791).bind fun t824 => (if t824 = true then (laws_FnExactLastWords.j2 kj59 t813 (bt819.2 != t794) t814) else (laws_FnExactLastWords.j2 kj59 t813 true t814))))) else (some false)))) = some r := H
                  have A90 := Aside0.mk A900
                  clear A900
                  replace H := Option.bind_eq_some_iff.mp H
                  obtain ⟨t815, A910, H⟩ := H
                  replace H : (if t815 < 0 then (some false) else (if t815 = t813 then ((laws_toTrie.f kj59 l0_0).bind fun t816 => ((impl_LastWords.f t816).bind fun bt819 => ((laws_eqTrie.f kj59 bt819.1 t791).bind fun t824 => (if t824 = true then (laws_FnExactLastWords.j2 kj59 t813 (bt819.2 != t794) t814) else (laws_FnExactLastWords.j2 kj59 t813 true t814))))) else (some false))) = some r := H
                  have A91 := Aside0.mk A910
                  clear A910
                  by_cases c92 : t815 < 0
                  · rw [if_pos c92] at H
                    have c92b0 : decide (t815 < 0) = true := decide_eq_true c92
                    clear c92
                    obtain rfl := Option.some.inj H
                    have hnb93 := NB804_786.out
                    have hnc93 := NB786_804.out
                    have hnb94 := NB804_795.out
                    have hnc94 := NB795_804.out
                    have hnb95 := NB804_799.out
                    have hnc95 := NB799_804.out
                    have hcz96_0 : wc.cell? ⟨gb804, 0, none⟩ = some (.slice Ao32 t800.length co32) := (blk_cell BK804.out 0).trans rfl
                    have hfz96_0 := blk_frozen BK804.out 0
                    go_wp2_with (first | ((with_reducible refine gate_callee (f := 33) rfl ?_); refine goesL_ (some 64) rfl rfl Try.func33 (by kernel_rfl) rfl #[.agg #[.slice Ao32 t800.length co32], .int .i64 1] rfl (by (try simp only [List.map_toArray, List.map_cons, List.map_nil]); first | done | rfl | (simp only [List.length_drop, List.length_take]; rfl)) ?_; (with_reducible refine (laws_markTrie.calls kj59 (fun k_ => some k_ = (.slice Ao32 t800.length co32 : Value).ownBlock) (.slice Ao32 t800.length co32) t800 1 t813 t814 w _ ?side1 ?side2 A90.out).mono ?_); (case side1 => repeat (first | (with_reducible first | exact HB.out | apply below_alloc | apply pw_below_drewN | apply below_drew1 | refine below_set ?_ GE786.out | refine below_set ?_ GE795.out | refine below_set ?_ GE799.out | refine below_set ?_ GE804.out) | exact HB.out)); (case side2 => exact Kd.R_tight rfl HO_805000.out); rintro e w97 ⟨rfl, hy0, hb, hkp⟩; refine ⟨_, rfl, ?_⟩; have n0_ := Aside0.mk (Kd.R_mono (ok' := fun k_ => some k_ ≠ (.slice Ao26 t811.length co26 : Value).ownBlock ∧ some k_ ≠ (.slice Ao32 t800.length co32 : Value).ownBlock) (Kd.R_keptB (HO_796000.out) hkp (fun k_ hk_ hs_ => (hk_.2) hs_)) (fun k_ hk_ => ⟨hk_.1.1, hk_.1.2⟩)); have n1_ := Aside0.mk (Kd.R_mono (ok' := fun k_ => some k_ ≠ (.slice Ao20 t791.length co20 : Value).ownBlock ∧ some k_ ≠ (.slice Ao32 t800.length co32 : Value).ownBlock) (Kd.R_keptB (HO_800000.out) hkp (fun k_ hk_ hs_ => (hk_.2) hs_)) (fun k_ hk_ => ⟨hk_.1.1, hk_.1.2⟩)); have n2_ := Aside0.mk (Kd.R_reok rfl hy0 (fun k_ e_ => HO_805000.out.1 k_ e_)); have n3_ := Aside0.mk (blk_kept (by (with_reducible repeat (first | refine blk_drewN ?_ _ | refine blk_drew ?_ | refine blk_alloc ?_ _)); exact BK786.out) hkp (fun hs_ => (fun e_ => (Kd.R_ne HO_805000.out BK786.out (by decide)) e_) hs_)); have n4_ := Aside0.mk (blk_kept (by (with_reducible repeat (first | refine blk_drewN ?_ _ | refine blk_drew ?_ | refine blk_alloc ?_ _)); exact BK795.out) hkp (fun hs_ => (fun e_ => (Kd.R_ne HO_805000.out BK795.out (by decide)) e_) hs_)); have n5_ := Aside0.mk (blk_kept (by (with_reducible repeat (first | refine blk_drewN ?_ _ | refine blk_drew ?_ | refine blk_alloc ?_ _)); exact BK799.out) hkp (fun hs_ => (fun e_ => (Kd.R_ne HO_805000.out BK799.out (by decide)) e_) hs_)); have n6_ := Aside0.mk (blk_kept (by (with_reducible repeat (first | refine blk_drewN ?_ _ | refine blk_drew ?_ | refine blk_alloc ?_ _)); exact BK804.out) hkp (fun hs_ => (fun e_ => (Kd.R_ne HO_805000.out BK804.out (by decide)) e_) hs_)); have n7_ := Aside0.mk (hb); clear HO_796000; clear HO_800000; clear HO_805000; clear BK786; clear BK795; clear BK799; clear BK804; clear HB; have HO_796000 := n0_; have HO_800000 := n1_; have HO_805000 := n2_; have BK786 := n3_; have BK795 := n4_; have BK799 := n5_; have BK804 := n6_; have HB := n7_; clear n0_ n1_ n2_ n3_ n4_ n5_ n6_ n7_; (try clear hb); (try clear hkp); (try clear hy0); have hcz98_0 : w97.cell? ⟨gb804, 0, none⟩ = some (.slice Ao32 t800.length co32) := (blk_cell BK804.out 0).trans rfl; have hfz98_0 := blk_frozen BK804.out 0) | ((with_reducible refine gate_callee (f := 38) rfl ?_); refine goesL_ (some 67) rfl rfl Try.func38 (by kernel_rfl) rfl #[.agg #[.slice Ao32 t814.length co32], .int .i64 1] rfl (by (try simp only [List.map_toArray, List.map_cons, List.map_nil]); first | done | (rw [show t814.length = t800.length from (Kd.R_reads' HO_805000.out).1.symm] <;> rfl) | rfl | (simp only [List.length_drop, List.length_take]; rfl)) ?_; (with_reducible refine (laws_heldTrie.calls kj59 _ _ t814 1 t815 _ ?side1 ?side2 A91.out).mono ?_); (case side1 => repeat (first | exact (Kd.R_reads' HO_805000.out).2.2 | (with_reducible refine Kd.C_alloc ?_ _) | (with_reducible refine Kd.C_drewN ?_ _) | (with_reducible refine Kd.C_drew ?_))); (case side2 => rw [show t814.length = t800.length from (Kd.R_reads' HO_805000.out).1.symm]; exact (Kd.R_reads' HO_805000.out).2.1); rintro e w99 ⟨rfl, hb⟩; refine ⟨_, rfl, ?_⟩; have n0_ := Aside0.mk (Kd.R_below (by (with_reducible repeat (first | apply Kd.R_alloc | apply Kd.R_drewN | apply Kd.R_drew)); exact HO_796000.out) hb); have n1_ := Aside0.mk (Kd.R_below (by (with_reducible repeat (first | apply Kd.R_alloc | apply Kd.R_drewN | apply Kd.R_drew)); exact HO_800000.out) hb); have n2_ := Aside0.mk (Kd.R_below (by (with_reducible repeat (first | apply Kd.R_alloc | apply Kd.R_drewN | apply Kd.R_drew)); exact HO_805000.out) hb); have n3_ := Aside0.mk (blk_below (g := gb786) (o := .cells #[.slice A0_0 l0_0.length c0_0] 24 (0, 0)) (by (with_reducible repeat (first | refine blk_drewN ?_ _ | refine blk_drew ?_ | refine blk_alloc ?_ _)); exact BK786.out) hb); have n4_ := Aside0.mk (blk_below (g := gb795) (o := .cells #[.slice Ao20 t791.length co20] 30 (0, 0)) (by (with_reducible repeat (first | refine blk_drewN ?_ _ | refine blk_drew ?_ | refine blk_alloc ?_ _)); exact BK795.out) hb); have n5_ := Aside0.mk (blk_below (g := gb799) (o := .cells #[.slice Ao26 t811.length co26] 30 (0, 0)) (by (with_reducible repeat (first | refine blk_drewN ?_ _ | refine blk_drew ?_ | refine blk_alloc ?_ _)); exact BK799.out) hb); have n6_ := Aside0.mk (blk_below (g := gb804) (o := .cells #[.slice Ao32 t800.length co32] 30 (0, 0)) (by (with_reducible repeat (first | refine blk_drewN ?_ _ | refine blk_drew ?_ | refine blk_alloc ?_ _)); exact BK804.out) hb); have n7_ := Aside0.mk (below_step (by repeat (first | (with_reducible first | exact HB.out | apply below_alloc | apply pw_below_drewN | apply below_drew1 | refine below_set ?_ GE786.out | refine below_set ?_ GE795.out | refine below_set ?_ GE799.out | refine below_set ?_ GE804.out) | exact HB.out)) hb); clear HO_796000; clear HO_800000; clear HO_805000; clear BK786; clear BK795; clear BK799; clear BK804; clear HB; have HO_796000 := n0_; have HO_800000 := n1_; have HO_805000 := n2_; have BK786 := n3_; have BK795 := n4_; have BK799 := n5_; have BK804 := n6_; have HB := n7_; clear n0_ n1_ n2_ n3_ n4_ n5_ n6_ n7_; (try clear hb); (try clear hb2); (try clear hk); (try clear hi)))
                    go_ret
                    exact ⟨by first | rfl | (simp [errW_none, errW_some] <;> rfl) | (simp [*, errW_none, errW_some] <;> rfl), by repeat (first | (with_reducible first | exact HB.out | apply below_alloc | apply pw_below_drewN | apply below_drew1 | refine below_set ?_ GE786.out | refine below_set ?_ GE795.out | refine below_set ?_ GE799.out | refine below_set ?_ GE804.out) | exact HB.out)⟩
                  · rw [if_neg c92] at H
                    have c92b0 : decide (t815 < 0) = false := decide_eq_false c92
                    clear c92
                    by_cases c100 : t815 = t813
                    · rw [if_pos c100] at H
                      have c100b0 : (t815 == t813) = true := beq_iff_eq.mpr c100
                      have c100b1 : (t815 != t813) = false := bne_eq_false_iff_eq.mpr c100
                      clear c100
                      replace H := Option.bind_eq_some_iff.mp H
                      obtain ⟨t816, A1010, H⟩ := H
                      replace H : ((impl_LastWords.f t816).bind fun bt819 => ((laws_eqTrie.f kj59 bt819.1 t791).bind fun t824 => (if t824 = true then (laws_FnExactLastWords.j2 kj59 t813 (bt819.2 != t794) t814) else (laws_FnExactLastWords.j2 kj59 t813 true t814)))) = some r := H
                      have A101 := Aside0.mk A1010
                      clear A1010
                      replace H := Option.bind_eq_some_iff.mp H
                      obtain ⟨⟨t819, t822⟩, A1020, H⟩ := H
                      replace H : ((laws_eqTrie.f kj59 t819 t791).bind fun t824 => (if t824 = true then (laws_FnExactLastWords.j2 kj59 t813 (t822 != t794) t814) else (laws_FnExactLastWords.j2 kj59 t813 true t814))) = some r := H
                      have A102 := Aside0.mk A1020
                      clear A1020
                      have HC103 := Aside0.mk H
                      clear H
                      have hnb104 := NB804_786.out
                      have hnc104 := NB786_804.out
                      have hnb105 := NB804_795.out
                      have hnc105 := NB795_804.out
                      have hnb106 := NB804_799.out
                      have hnc106 := NB799_804.out
                      have hcz107_0 : wc.cell? ⟨gb804, 0, none⟩ = some (.slice Ao32 t800.length co32) := (blk_cell BK804.out 0).trans rfl
                      have hfz107_0 := blk_frozen BK804.out 0
                      go_upto_region 25 with (first | ((with_reducible refine gate_callee (f := 33) rfl ?_); refine goesL_ (some 64) rfl rfl Try.func33 (by kernel_rfl) rfl #[.agg #[.slice Ao32 t800.length co32], .int .i64 1] rfl (by (try simp only [List.map_toArray, List.map_cons, List.map_nil]); first | done | rfl | (simp only [List.length_drop, List.length_take]; rfl)) ?_; (with_reducible refine (laws_markTrie.calls kj59 (fun k_ => some k_ = (.slice Ao32 t800.length co32 : Value).ownBlock) (.slice Ao32 t800.length co32) t800 1 t813 t814 w _ ?side1 ?side2 A90.out).mono ?_); (case side1 => repeat (first | (with_reducible first | exact HB.out | apply below_alloc | apply pw_below_drewN | apply below_drew1 | refine below_set ?_ GE786.out | refine below_set ?_ GE795.out | refine below_set ?_ GE799.out | refine below_set ?_ GE804.out) | exact HB.out)); (case side2 => exact Kd.R_tight rfl HO_805000.out); rintro e w108 ⟨rfl, hy0, hb, hkp⟩; refine ⟨_, rfl, ?_⟩; have n0_ := Aside0.mk (Kd.R_mono (ok' := fun k_ => some k_ ≠ (.slice Ao26 t811.length co26 : Value).ownBlock ∧ some k_ ≠ (.slice Ao32 t800.length co32 : Value).ownBlock) (Kd.R_keptB (HO_796000.out) hkp (fun k_ hk_ hs_ => (hk_.2) hs_)) (fun k_ hk_ => ⟨hk_.1.1, hk_.1.2⟩)); have n1_ := Aside0.mk (Kd.R_mono (ok' := fun k_ => some k_ ≠ (.slice Ao20 t791.length co20 : Value).ownBlock ∧ some k_ ≠ (.slice Ao32 t800.length co32 : Value).ownBlock) (Kd.R_keptB (HO_800000.out) hkp (fun k_ hk_ hs_ => (hk_.2) hs_)) (fun k_ hk_ => ⟨hk_.1.1, hk_.1.2⟩)); have n2_ := Aside0.mk (Kd.R_reok rfl hy0 (fun k_ e_ => HO_805000.out.1 k_ e_)); have n3_ := Aside0.mk (blk_kept (by (with_reducible repeat (first | refine blk_drewN ?_ _ | refine blk_drew ?_ | refine blk_alloc ?_ _)); exact BK786.out) hkp (fun hs_ => (fun e_ => (Kd.R_ne HO_805000.out BK786.out (by decide)) e_) hs_)); have n4_ := Aside0.mk (blk_kept (by (with_reducible repeat (first | refine blk_drewN ?_ _ | refine blk_drew ?_ | refine blk_alloc ?_ _)); exact BK795.out) hkp (fun hs_ => (fun e_ => (Kd.R_ne HO_805000.out BK795.out (by decide)) e_) hs_)); have n5_ := Aside0.mk (blk_kept (by (with_reducible repeat (first | refine blk_drewN ?_ _ | refine blk_drew ?_ | refine blk_alloc ?_ _)); exact BK799.out) hkp (fun hs_ => (fun e_ => (Kd.R_ne HO_805000.out BK799.out (by decide)) e_) hs_)); have n6_ := Aside0.mk (blk_kept (by (with_reducible repeat (first | refine blk_drewN ?_ _ | refine blk_drew ?_ | refine blk_alloc ?_ _)); exact BK804.out) hkp (fun hs_ => (fun e_ => (Kd.R_ne HO_805000.out BK804.out (by decide)) e_) hs_)); have n7_ := Aside0.mk (hb); clear HO_796000; clear HO_800000; clear HO_805000; clear BK786; clear BK795; clear BK799; clear BK804; clear HB; have HO_796000 := n0_; have HO_800000 := n1_; have HO_805000 := n2_; have BK786 := n3_; have BK795 := n4_; have BK799 := n5_; have BK804 := n6_; have HB := n7_; clear n0_ n1_ n2_ n3_ n4_ n5_ n6_ n7_; (try clear hb); (try clear hkp); (try clear hy0); have hcz109_0 : w108.cell? ⟨gb804, 0, none⟩ = some (.slice Ao32 t800.length co32) := (blk_cell BK804.out 0).trans rfl; have hfz109_0 := blk_frozen BK804.out 0) | ((with_reducible refine gate_callee (f := 38) rfl ?_); refine goesL_ (some 67) rfl rfl Try.func38 (by kernel_rfl) rfl #[.agg #[.slice Ao32 t814.length co32], .int .i64 1] rfl (by (try simp only [List.map_toArray, List.map_cons, List.map_nil]); first | done | (rw [show t814.length = t800.length from (Kd.R_reads' HO_805000.out).1.symm] <;> rfl) | rfl | (simp only [List.length_drop, List.length_take]; rfl)) ?_; (with_reducible refine (laws_heldTrie.calls kj59 _ _ t814 1 t815 _ ?side1 ?side2 A91.out).mono ?_); (case side1 => repeat (first | exact (Kd.R_reads' HO_805000.out).2.2 | (with_reducible refine Kd.C_alloc ?_ _) | (with_reducible refine Kd.C_drewN ?_ _) | (with_reducible refine Kd.C_drew ?_))); (case side2 => rw [show t814.length = t800.length from (Kd.R_reads' HO_805000.out).1.symm]; exact (Kd.R_reads' HO_805000.out).2.1); rintro e w110 ⟨rfl, hb⟩; refine ⟨_, rfl, ?_⟩; have n0_ := Aside0.mk (Kd.R_below (by (with_reducible repeat (first | apply Kd.R_alloc | apply Kd.R_drewN | apply Kd.R_drew)); exact HO_796000.out) hb); have n1_ := Aside0.mk (Kd.R_below (by (with_reducible repeat (first | apply Kd.R_alloc | apply Kd.R_drewN | apply Kd.R_drew)); exact HO_800000.out) hb); have n2_ := Aside0.mk (Kd.R_below (by (with_reducible repeat (first | apply Kd.R_alloc | apply Kd.R_drewN | apply Kd.R_drew)); exact HO_805000.out) hb); have n3_ := Aside0.mk (blk_below (g := gb786) (o := .cells #[.slice A0_0 l0_0.length c0_0] 24 (0, 0)) (by (with_reducible repeat (first | refine blk_drewN ?_ _ | refine blk_drew ?_ | refine blk_alloc ?_ _)); exact BK786.out) hb); have n4_ := Aside0.mk (blk_below (g := gb795) (o := .cells #[.slice Ao20 t791.length co20] 30 (0, 0)) (by (with_reducible repeat (first | refine blk_drewN ?_ _ | refine blk_drew ?_ | refine blk_alloc ?_ _)); exact BK795.out) hb); have n5_ := Aside0.mk (blk_below (g := gb799) (o := .cells #[.slice Ao26 t811.length co26] 30 (0, 0)) (by (with_reducible repeat (first | refine blk_drewN ?_ _ | refine blk_drew ?_ | refine blk_alloc ?_ _)); exact BK799.out) hb); have n6_ := Aside0.mk (blk_below (g := gb804) (o := .cells #[.slice Ao32 t800.length co32] 30 (0, 0)) (by (with_reducible repeat (first | refine blk_drewN ?_ _ | refine blk_drew ?_ | refine blk_alloc ?_ _)); exact BK804.out) hb); have n7_ := Aside0.mk (below_step (by repeat (first | (with_reducible first | exact HB.out | apply below_alloc | apply pw_below_drewN | apply below_drew1 | refine below_set ?_ GE786.out | refine below_set ?_ GE795.out | refine below_set ?_ GE799.out | refine below_set ?_ GE804.out) | exact HB.out)) hb); clear HO_796000; clear HO_800000; clear HO_805000; clear BK786; clear BK795; clear BK799; clear BK804; clear HB; have HO_796000 := n0_; have HO_800000 := n1_; have HO_805000 := n2_; have BK786 := n3_; have BK795 := n4_; have BK799 := n5_; have BK804 := n6_; have HB := n7_; clear n0_ n1_ n2_ n3_ n4_ n5_ n6_ n7_; (try clear hb); (try clear hb2); (try clear hk); (try clear hi); have hnb111 := NB786_795.out; have hnc111 := NB795_786.out; have hnb112 := NB786_799.out; have hnc112 := NB799_786.out; have hcz113_0 : w110.cell? ⟨gb786, 0, none⟩ = some (.slice A0_0 l0_0.length c0_0) := (blk_cell BK786.out 0).trans rfl; have hfz113_0 := blk_frozen BK786.out 0) | ((with_reducible refine gate_callee (f := 17) rfl ?_); refine goesL_ (some 75) rfl rfl Try.func17 (by kernel_rfl) rfl #[.agg #[.slice A0_0 l0_0.length c0_0]] rfl (by (try simp only [List.map_toArray, List.map_cons, List.map_nil]); first | done | rfl | (simp only [List.length_drop, List.length_take]; rfl)) ?_; (with_reducible refine (laws_toTrie.calls kj59 _ _ l0_0 t816 _ ?side1 ?side2 A101.out).mono ?_); (case side1 => repeat (first | exact (Kd.C_below HR0_0.out HB.out) | (with_reducible refine Kd.C_alloc ?_ _) | (with_reducible refine Kd.C_drewN ?_ _) | (with_reducible refine Kd.C_drew ?_))); (case side2 => exact HC0_0.out); rintro e w114 ⟨v817, rfl, ho0, hb⟩; refine ⟨_, rfl, ?_⟩; have n0_ := Aside0.mk (Kd.R_elder' (by (with_reducible repeat (first | apply Kd.R_alloc | apply Kd.R_drewN | apply Kd.R_drew)); exact HO_796000.out) (Kd.R_base ho0) hb); have n1_ := Aside0.mk (Kd.R_elder' (by (with_reducible repeat (first | apply Kd.R_alloc | apply Kd.R_drewN | apply Kd.R_drew)); exact HO_800000.out) (Kd.R_base ho0) hb); have n2_ := Aside0.mk (Kd.R_elder' (by (with_reducible repeat (first | apply Kd.R_alloc | apply Kd.R_drewN | apply Kd.R_drew)); exact HO_805000.out) (Kd.R_base ho0) hb); have n3_ := Aside0.mk (Kd.R_lower (Kd.R_new' (Kd.R_new' (Kd.R_new' ho0 (Kd.R_lt (by (with_reducible repeat (first | apply Kd.R_alloc | apply Kd.R_drewN | apply Kd.R_drew)); exact HO_796000.out))) (Kd.R_lt (by (with_reducible repeat (first | apply Kd.R_alloc | apply Kd.R_drewN | apply Kd.R_drew)); exact HO_800000.out))) (Kd.R_lt (by (with_reducible repeat (first | apply Kd.R_alloc | apply Kd.R_drewN | apply Kd.R_drew)); exact HO_805000.out))) (below_size (by repeat (first | (with_reducible first | exact HB.out | apply below_alloc | apply pw_below_drewN | apply below_drew1 | refine below_set ?_ GE786.out | refine below_set ?_ GE795.out | refine below_set ?_ GE799.out | refine below_set ?_ GE804.out) | exact HB.out)))); have n4_ := Aside0.mk (blk_below (g := gb786) (o := .cells #[.slice A0_0 l0_0.length c0_0] 24 (0, 0)) (by (with_reducible repeat (first | refine blk_drewN ?_ _ | refine blk_drew ?_ | refine blk_alloc ?_ _)); exact BK786.out) hb); have n5_ := Aside0.mk (blk_below (g := gb795) (o := .cells #[.slice Ao20 t791.length co20] 30 (0, 0)) (by (with_reducible repeat (first | refine blk_drewN ?_ _ | refine blk_drew ?_ | refine blk_alloc ?_ _)); exact BK795.out) hb); have n6_ := Aside0.mk (blk_below (g := gb799) (o := .cells #[.slice Ao26 t811.length co26] 30 (0, 0)) (by (with_reducible repeat (first | refine blk_drewN ?_ _ | refine blk_drew ?_ | refine blk_alloc ?_ _)); exact BK799.out) hb); have n7_ := Aside0.mk (blk_below (g := gb804) (o := .cells #[.slice Ao32 t800.length co32] 30 (0, 0)) (by (with_reducible repeat (first | refine blk_drewN ?_ _ | refine blk_drew ?_ | refine blk_alloc ?_ _)); exact BK804.out) hb); have n8_ := Aside0.mk (below_step (by repeat (first | (with_reducible first | exact HB.out | apply below_alloc | apply pw_below_drewN | apply below_drew1 | refine below_set ?_ GE786.out | refine below_set ?_ GE795.out | refine below_set ?_ GE799.out | refine below_set ?_ GE804.out) | exact HB.out)) hb); clear HO_796000; clear HO_800000; clear HO_805000; clear BK786; clear BK795; clear BK799; clear BK804; clear HB; have HO_796000 := n0_; have HO_800000 := n1_; have HO_805000 := n2_; have HO818 := n3_; have BK786 := n4_; have BK795 := n5_; have BK799 := n6_; have BK804 := n7_; have HB := n8_; clear n0_ n1_ n2_ n3_ n4_ n5_ n6_ n7_ n8_; (try clear hb); (try clear hb2); (try clear hk); (try clear hi); (try clear ho0); obtain ⟨Ao115, co115, eo115⟩ := Kd.R_slice HO818.out; subst eo115) | ((with_reducible refine gate_callee (f := 44) rfl ?_); refine goesL_ (some 76) rfl rfl Try.func44 (by kernel_rfl) rfl #[.agg #[.slice Ao115 t816.length co115]] rfl (by (try simp only [List.map_toArray, List.map_cons, List.map_nil]); first | done | rfl | (simp only [List.length_drop, List.length_take]; rfl)) ?_; (with_reducible refine (impl_LastWords.calls _ _ t816 t819 t822 _ ?side1 ?side2 A102.out).mono ?_); (case side1 => repeat (first | exact (Kd.R_reads' HO818.out).2.2 | (with_reducible refine Kd.C_alloc ?_ _) | (with_reducible refine Kd.C_drewN ?_ _) | (with_reducible refine Kd.C_drew ?_))); (case side2 => exact (Kd.R_reads' HO818.out).2.1); rintro e w116 ⟨v820, rfl, ho0, hb⟩; refine ⟨_, rfl, ?_⟩; have n0_ := Aside0.mk (Kd.R_elder' (by (with_reducible repeat (first | apply Kd.R_alloc | apply Kd.R_drewN | apply Kd.R_drew)); exact HO_796000.out) (Kd.R_base ho0) hb); have n1_ := Aside0.mk (Kd.R_elder' (by (with_reducible repeat (first | apply Kd.R_alloc | apply Kd.R_drewN | apply Kd.R_drew)); exact HO_800000.out) (Kd.R_base ho0) hb); have n2_ := Aside0.mk (Kd.R_elder' (by (with_reducible repeat (first | apply Kd.R_alloc | apply Kd.R_drewN | apply Kd.R_drew)); exact HO_805000.out) (Kd.R_base ho0) hb); have n3_ := Aside0.mk (Kd.R_elder' (by (with_reducible repeat (first | apply Kd.R_alloc | apply Kd.R_drewN | apply Kd.R_drew)); exact HO818.out) (Kd.R_base ho0) hb); have n4_ := Aside0.mk (Kd.R_lower (Kd.R_new' (Kd.R_new' (Kd.R_new' (Kd.R_new' ho0 (Kd.R_lt (by (with_reducible repeat (first | apply Kd.R_alloc | apply Kd.R_drewN | apply Kd.R_drew)); exact HO_796000.out))) (Kd.R_lt (by (with_reducible repeat (first | apply Kd.R_alloc | apply Kd.R_drewN | apply Kd.R_drew)); exact HO_800000.out))) (Kd.R_lt (by (with_reducible repeat (first | apply Kd.R_alloc | apply Kd.R_drewN | apply Kd.R_drew)); exact HO_805000.out))) (Kd.R_lt (by (with_reducible repeat (first | apply Kd.R_alloc | apply Kd.R_drewN | apply Kd.R_drew)); exact HO818.out))) (below_size (by repeat (first | (with_reducible first | exact HB.out | apply below_alloc | apply pw_below_drewN | apply below_drew1 | refine below_set ?_ GE786.out | refine below_set ?_ GE795.out | refine below_set ?_ GE799.out | refine below_set ?_ GE804.out) | exact HB.out)))); have n5_ := Aside0.mk (blk_below (g := gb786) (o := .cells #[.slice A0_0 l0_0.length c0_0] 24 (0, 0)) (by (with_reducible repeat (first | refine blk_drewN ?_ _ | refine blk_drew ?_ | refine blk_alloc ?_ _)); exact BK786.out) hb); have n6_ := Aside0.mk (blk_below (g := gb795) (o := .cells #[.slice Ao20 t791.length co20] 30 (0, 0)) (by (with_reducible repeat (first | refine blk_drewN ?_ _ | refine blk_drew ?_ | refine blk_alloc ?_ _)); exact BK795.out) hb); have n7_ := Aside0.mk (blk_below (g := gb799) (o := .cells #[.slice Ao26 t811.length co26] 30 (0, 0)) (by (with_reducible repeat (first | refine blk_drewN ?_ _ | refine blk_drew ?_ | refine blk_alloc ?_ _)); exact BK799.out) hb); have n8_ := Aside0.mk (blk_below (g := gb804) (o := .cells #[.slice Ao32 t800.length co32] 30 (0, 0)) (by (with_reducible repeat (first | refine blk_drewN ?_ _ | refine blk_drew ?_ | refine blk_alloc ?_ _)); exact BK804.out) hb); have n9_ := Aside0.mk (below_step (by repeat (first | (with_reducible first | exact HB.out | apply below_alloc | apply pw_below_drewN | apply below_drew1 | refine below_set ?_ GE786.out | refine below_set ?_ GE795.out | refine below_set ?_ GE799.out | refine below_set ?_ GE804.out) | exact HB.out)) hb); clear HO_796000; clear HO_800000; clear HO_805000; clear HO818; clear BK786; clear BK795; clear BK799; clear BK804; clear HB; have HO_796000 := n0_; have HO_800000 := n1_; have HO_805000 := n2_; have HO818 := n3_; have HO821 := n4_; have BK786 := n5_; have BK795 := n6_; have BK799 := n7_; have BK804 := n8_; have HB := n9_; clear n0_ n1_ n2_ n3_ n4_ n5_ n6_ n7_ n8_ n9_; (try clear hb); (try clear hb2); (try clear hk); (try clear hi); (try clear ho0)) | ((with_reducible refine gate_dst (N := 12) rfl ?_); refine box_event ?hg (N := 12) ?hd (cs := #[.slice none 0 0]) (t := 30) ?hr ?_; (case hd => rfl); (case hg => rfl); (case hr => first | (go_simp; done) | (go_simp; rfl)); intro gb823 hg w117 hbox hb; have n0_ := Aside0.mk (Kd.R_below (by (with_reducible repeat (first | apply Kd.R_alloc | apply Kd.R_drewN | apply Kd.R_drew)); exact HO_796000.out) hb); have n1_ := Aside0.mk (Kd.R_below (by (with_reducible repeat (first | apply Kd.R_alloc | apply Kd.R_drewN | apply Kd.R_drew)); exact HO_800000.out) hb); have n2_ := Aside0.mk (Kd.R_below (by (with_reducible repeat (first | apply Kd.R_alloc | apply Kd.R_drewN | apply Kd.R_drew)); exact HO_805000.out) hb); have n3_ := Aside0.mk (Kd.R_below (by (with_reducible repeat (first | apply Kd.R_alloc | apply Kd.R_drewN | apply Kd.R_drew)); exact HO818.out) hb); have n4_ := Aside0.mk (Kd.R_below (by (with_reducible repeat (first | apply Kd.R_alloc | apply Kd.R_drewN | apply Kd.R_drew)); exact HO821.out) hb); have n5_ := Aside0.mk (blk_below (g := gb786) (o := .cells #[.slice A0_0 l0_0.length c0_0] 24 (0, 0)) (by (with_reducible repeat (first | refine blk_drewN ?_ _ | refine blk_drew ?_ | refine blk_alloc ?_ _)); exact BK786.out) hb); have n6_ := Aside0.mk (blk_below (g := gb795) (o := .cells #[.slice Ao20 t791.length co20] 30 (0, 0)) (by (with_reducible repeat (first | refine blk_drewN ?_ _ | refine blk_drew ?_ | refine blk_alloc ?_ _)); exact BK795.out) hb); have n7_ := Aside0.mk (blk_below (g := gb799) (o := .cells #[.slice Ao26 t811.length co26] 30 (0, 0)) (by (with_reducible repeat (first | refine blk_drewN ?_ _ | refine blk_drew ?_ | refine blk_alloc ?_ _)); exact BK799.out) hb); have n8_ := Aside0.mk (blk_below (g := gb804) (o := .cells #[.slice Ao32 t800.length co32] 30 (0, 0)) (by (with_reducible repeat (first | refine blk_drewN ?_ _ | refine blk_drew ?_ | refine blk_alloc ?_ _)); exact BK804.out) hb); have n9_ := Aside0.mk (below_step (by repeat (first | (with_reducible first | exact HB.out | apply below_alloc | apply pw_below_drewN | apply below_drew1 | refine below_set ?_ GE786.out | refine below_set ?_ GE795.out | refine below_set ?_ GE799.out | refine below_set ?_ GE804.out) | exact HB.out)) hb); have n10_ := Aside0.mk (hbox); have n11_ := Aside0.mk ((by rw [hg]; exact (below_size (by repeat (first | (with_reducible first | exact HB.out | apply below_alloc | apply pw_below_drewN | apply below_drew1 | refine below_set ?_ GE786.out | refine below_set ?_ GE795.out | refine below_set ?_ GE799.out | refine below_set ?_ GE804.out) | exact HB.out))) : w.heap.size ≤ gb823)); have n12_ := Aside0.mk ((by rw [hg]; exact (below_size (by repeat (first | (with_reducible first | exact HB.out | apply below_alloc | apply pw_below_drewN | apply below_drew1 | refine below_set ?_ GE786.out | refine below_set ?_ GE795.out | refine below_set ?_ GE799.out | refine below_set ?_ GE804.out) | exact HB.out))) : w.heap.size ≤ gb823)); have n13_ := Aside0.mk ((by rw [hg]; exact Nat.ne_of_lt (blk_lt (g := gb786) (o := .cells #[.slice A0_0 l0_0.length c0_0] 24 (0, 0)) (by (with_reducible repeat (first | refine blk_drewN ?_ _ | refine blk_drew ?_ | refine blk_alloc ?_ _)); exact BK786.out)) : gb786 ≠ gb823)); have n14_ := Aside0.mk ((by rw [hg]; exact Nat.ne_of_gt (blk_lt (g := gb786) (o := .cells #[.slice A0_0 l0_0.length c0_0] 24 (0, 0)) (by (with_reducible repeat (first | refine blk_drewN ?_ _ | refine blk_drew ?_ | refine blk_alloc ?_ _)); exact BK786.out)) : gb823 ≠ gb786)); have n15_ := Aside0.mk ((by rw [hg]; exact Nat.ne_of_lt (blk_lt (g := gb795) (o := .cells #[.slice Ao20 t791.length co20] 30 (0, 0)) (by (with_reducible repeat (first | refine blk_drewN ?_ _ | refine blk_drew ?_ | refine blk_alloc ?_ _)); exact BK795.out)) : gb795 ≠ gb823)); have n16_ := Aside0.mk ((by rw [hg]; exact Nat.ne_of_gt (blk_lt (g := gb795) (o := .cells #[.slice Ao20 t791.length co20] 30 (0, 0)) (by (with_reducible repeat (first | refine blk_drewN ?_ _ | refine blk_drew ?_ | refine blk_alloc ?_ _)); exact BK795.out)) : gb823 ≠ gb795)); have n17_ := Aside0.mk ((by rw [hg]; exact Nat.ne_of_lt (blk_lt (g := gb799) (o := .cells #[.slice Ao26 t811.length co26] 30 (0, 0)) (by (with_reducible repeat (first | refine blk_drewN ?_ _ | refine blk_drew ?_ | refine blk_alloc ?_ _)); exact BK799.out)) : gb799 ≠ gb823)); have n18_ := Aside0.mk ((by rw [hg]; exact Nat.ne_of_gt (blk_lt (g := gb799) (o := .cells #[.slice Ao26 t811.length co26] 30 (0, 0)) (by (with_reducible repeat (first | refine blk_drewN ?_ _ | refine blk_drew ?_ | refine blk_alloc ?_ _)); exact BK799.out)) : gb823 ≠ gb799)); have n19_ := Aside0.mk ((by rw [hg]; exact Nat.ne_of_lt (blk_lt (g := gb804) (o := .cells #[.slice Ao32 t800.length co32] 30 (0, 0)) (by (with_reducible repeat (first | refine blk_drewN ?_ _ | refine blk_drew ?_ | refine blk_alloc ?_ _)); exact BK804.out)) : gb804 ≠ gb823)); have n20_ := Aside0.mk ((by rw [hg]; exact Nat.ne_of_gt (blk_lt (g := gb804) (o := .cells #[.slice Ao32 t800.length co32] 30 (0, 0)) (by (with_reducible repeat (first | refine blk_drewN ?_ _ | refine blk_drew ?_ | refine blk_alloc ?_ _)); exact BK804.out)) : gb823 ≠ gb804)); clear HO_796000; clear HO_800000; clear HO_805000; clear HO818; clear HO821; clear BK786; clear BK795; clear BK799; clear BK804; clear HB; have HO_796000 := n0_; have HO_800000 := n1_; have HO_805000 := n2_; have HO818 := n3_; have HO821 := n4_; have BK786 := n5_; have BK795 := n6_; have BK799 := n7_; have BK804 := n8_; have HB := n9_; have BK823 := n10_; have GW823 := n11_; have GE823 := n12_; have NB786_823 := n13_; have NB823_786 := n14_; have NB795_823 := n15_; have NB823_795 := n16_; have NB799_823 := n17_; have NB823_799 := n18_; have NB804_823 := n19_; have NB823_804 := n20_; clear n0_ n1_ n2_ n3_ n4_ n5_ n6_ n7_ n8_ n9_ n10_ n11_ n12_ n13_ n14_ n15_ n16_ n17_ n18_ n19_ n20_; clear hb hbox hg; obtain ⟨Ao118, co118, eo118⟩ := Kd.R_slice HO821.out; subst eo118; have hnb119 := NB823_786.out; have hnc119 := NB786_823.out; have hnb120 := NB823_795.out; have hnc120 := NB795_823.out; have hnb121 := NB823_799.out; have hnc121 := NB799_823.out; have hnb122 := NB823_804.out; have hnc122 := NB804_823.out; have hcz123_0 : w117.cell? ⟨gb823, 0, none⟩ = some (.slice none 0 0) := (blk_cell BK823.out 0).trans rfl; have hfz123_0 := blk_frozen BK823.out 0))
                      (try simp only [Act.put, List.setIfInBounds_toArray, List.set_cons_zero, List.set_cons_succ])
                      go_cut [87] (fun v87 wc => ∃ (kq : Nat) (x87_102 : Bool), v87 = .bool x87_102 ∧ Aside0 (laws_FnExactLastWords.j2 kq t813 x87_102 t814 = some r) ∧ Aside0 (kq ≤ kj59) ∧ Aside0 (Kd.R k86 86 wc w.heap.size (fun k_ => some k_ ≠ ((.slice Ao26 t811.length co26) : Value).ownBlock ∧ some k_ ≠ ((.slice Ao32 t800.length co32) : Value).ownBlock ∧ some k_ ≠ ((.slice Ao118 t819.length co118) : Value).ownBlock) (.slice Ao20 t791.length co20) t791) ∧ Aside0 (Kd.R k86 86 wc w.heap.size (fun k_ => some k_ ≠ ((.slice Ao20 t791.length co20) : Value).ownBlock ∧ some k_ ≠ ((.slice Ao32 t800.length co32) : Value).ownBlock ∧ some k_ ≠ ((.slice Ao118 t819.length co118) : Value).ownBlock) (.slice Ao26 t811.length co26) t811) ∧ Aside0 (Kd.R k86 86 wc w.heap.size (fun k_ => some k_ ≠ ((.slice Ao20 t791.length co20) : Value).ownBlock ∧ some k_ ≠ ((.slice Ao26 t811.length co26) : Value).ownBlock ∧ some k_ ≠ ((.slice Ao118 t819.length co118) : Value).ownBlock) (.slice Ao32 t800.length co32) t814) ∧ Aside0 (Kd.R k86 86 wc w.heap.size (fun k_ => some k_ ≠ ((.slice Ao20 t791.length co20) : Value).ownBlock ∧ some k_ ≠ ((.slice Ao26 t811.length co26) : Value).ownBlock ∧ some k_ ≠ ((.slice Ao32 t800.length co32) : Value).ownBlock) (.slice Ao118 t819.length co118) t819) ∧ Aside0 (wc.heap[gb786]? = some (.cells #[(.slice A0_0 l0_0.length c0_0)] 24 (0, 0))) ∧ Aside0 (wc.heap[gb795]? = some (.cells #[(.slice Ao20 t791.length co20)] 30 (0, 0))) ∧ Aside0 (wc.heap[gb799]? = some (.cells #[(.slice Ao26 t811.length co26)] 30 (0, 0))) ∧ Aside0 (wc.heap[gb804]? = some (.cells #[(.slice Ao32 t800.length co32)] 30 (0, 0))) ∧ Aside0 (wc.heap[gb823]? = some (.cells #[(.slice Ao118 t819.length co118)] 30 (0, 0))) ∧ Aside0 (Below w.heap.size w wc))
                      case first =>
                        have H := HC103.out
                        clear HC103
                        replace H := Option.bind_eq_some_iff.mp H
                        obtain ⟨t824, A1240, H⟩ := H
                        replace H : (if t824 = true then (laws_FnExactLastWords.j2 kj59 t813 (t822 != t794) t814) else (laws_FnExactLastWords.j2 kj59 t813 true t814)) = some r := H
                        have A124 := Aside0.mk A1240
                        clear A1240
                        by_cases c125 : t824 = true
                        · subst c125
                          have H1 : (laws_FnExactLastWords.j2 kj59 t813 (t822 != t794) t814) = some r := by rw [if_pos rfl] at H; exact H
                          clear H
                          have H := H1
                          clear H1
                          have H' := Aside0.mk H
                          clear H
                          have hnb126 := NB823_786.out
                          have hnc126 := NB786_823.out
                          have hnb127 := NB823_795.out
                          have hnc127 := NB795_823.out
                          have hnb128 := NB823_799.out
                          have hnc128 := NB799_823.out
                          have hnb129 := NB823_804.out
                          have hnc129 := NB804_823.out
                          have hcz130_0 : w117.cell? ⟨gb823, 0, none⟩ = some (.slice none 0 0) := (blk_cell BK823.out 0).trans rfl
                          have hfz130_0 := blk_frozen BK823.out 0
                          have hnb131 := NB795_786.out
                          have hnc131 := NB786_795.out
                          have hnb132 := NB795_799.out
                          have hnc132 := NB799_795.out
                          have hnb133 := NB795_804.out
                          have hnc133 := NB804_795.out
                          have hcz134_0 : w117.cell? ⟨gb795, 0, none⟩ = some (.slice Ao20 t791.length co20) := (blk_cell BK795.out 0).trans rfl
                          have hfz134_0 := blk_frozen BK795.out 0
                          go_wp2_with (first | ((with_reducible refine gate_callee (f := 19) rfl ?_); refine goesL_ (some 81) rfl rfl Try.func19 (by kernel_rfl) rfl #[.agg #[.slice Ao118 t819.length co118], .agg #[.slice Ao20 t791.length co20]] rfl (by (try simp only [List.map_toArray, List.map_cons, List.map_nil]); first | done | rfl | (simp only [List.length_drop, List.length_take]; rfl)) ?_; (with_reducible refine (laws_eqTrie.calls kj59 _ _ t819 _ _ t791 true _ ?side1 ?side2 ?side3 ?side4 A124.out).mono ?_); (case side1 => refine (Kd.R_reads' (e := 86) (base := w.heap.size) (ok := fun k_ => ((((True ∧ some k_ ≠ (.slice Ao20 t791.length co20 : Value).ownBlock) ∧ some k_ ≠ (.slice Ao26 t811.length co26 : Value).ownBlock) ∧ some k_ ≠ (.slice Ao32 t800.length co32 : Value).ownBlock) ∧ some k_ ≠ (.slice Ao115 t816.length co115 : Value).ownBlock)) (n := t819.length) (c := co118) ?_).2.2; exact (by (with_reducible repeat (first | apply Kd.R_alloc | apply Kd.R_drewN | apply Kd.R_drew)); exact (Kd.R_mono (R_same_ (Kd.R_far (p := ⟨gb823, 0, none⟩) (Kd.R_types HO821.out BK823.out (by decide)) (fun _ hk => hk.2) (.slice Ao118 t819.length co118)) rfl) (fun _ h_ => h_.1)))); (case side2 => exact (Kd.R_reads' HO821.out).2.1); (case side3 => refine (Kd.R_reads' (e := 86) (base := w.heap.size) (ok := fun k_ => (((some k_ ≠ (.slice Ao26 t811.length co26 : Value).ownBlock ∧ some k_ ≠ (.slice Ao32 t800.length co32 : Value).ownBlock) ∧ some k_ ≠ (.slice Ao115 t816.length co115 : Value).ownBlock) ∧ some k_ ≠ (.slice Ao118 t819.length co118 : Value).ownBlock)) (n := t791.length) (c := co20) ?_).2.2; exact (by (with_reducible repeat (first | apply Kd.R_alloc | apply Kd.R_drewN | apply Kd.R_drew)); exact (Kd.R_mono (R_same_ (Kd.R_far (p := ⟨gb823, 0, none⟩) (Kd.R_types HO_796000.out BK823.out (by decide)) (fun _ hk => hk.2) (.slice Ao118 t819.length co118)) rfl) (fun _ h_ => h_.1)))); (case side4 => exact (Kd.R_reads' HO_796000.out).2.1); rintro e w135 ⟨rfl, hb⟩; refine ⟨_, rfl, ?_⟩; have n0_ := Aside0.mk (Kd.R_below (by (with_reducible repeat (first | apply Kd.R_alloc | apply Kd.R_drewN | apply Kd.R_drew)); exact (Kd.R_mono (R_same_ (Kd.R_far (p := ⟨gb823, 0, none⟩) (Kd.R_types HO_796000.out BK823.out (by decide)) (fun _ hk => hk.2) (.slice Ao118 t819.length co118)) rfl) (fun _ h_ => h_.1))) hb); have n1_ := Aside0.mk (Kd.R_below (by (with_reducible repeat (first | apply Kd.R_alloc | apply Kd.R_drewN | apply Kd.R_drew)); exact (Kd.R_mono (R_same_ (Kd.R_far (p := ⟨gb823, 0, none⟩) (Kd.R_types HO_800000.out BK823.out (by decide)) (fun _ hk => hk.2) (.slice Ao118 t819.length co118)) rfl) (fun _ h_ => h_.1))) hb); have n2_ := Aside0.mk (Kd.R_below (by (with_reducible repeat (first | apply Kd.R_alloc | apply Kd.R_drewN | apply Kd.R_drew)); exact (Kd.R_mono (R_same_ (Kd.R_far (p := ⟨gb823, 0, none⟩) (Kd.R_types HO_805000.out BK823.out (by decide)) (fun _ hk => hk.2) (.slice Ao118 t819.length co118)) rfl) (fun _ h_ => h_.1))) hb); have n3_ := Aside0.mk (Kd.R_below (by (with_reducible repeat (first | apply Kd.R_alloc | apply Kd.R_drewN | apply Kd.R_drew)); exact (Kd.R_mono (R_same_ (Kd.R_far (p := ⟨gb823, 0, none⟩) (Kd.R_types HO818.out BK823.out (by decide)) (fun _ hk => hk.2) (.slice Ao118 t819.length co118)) rfl) (fun _ h_ => h_.1))) hb); have n4_ := Aside0.mk (Kd.R_below (by (with_reducible repeat (first | apply Kd.R_alloc | apply Kd.R_drewN | apply Kd.R_drew)); exact (Kd.R_mono (R_same_ (Kd.R_far (p := ⟨gb823, 0, none⟩) (Kd.R_types HO821.out BK823.out (by decide)) (fun _ hk => hk.2) (.slice Ao118 t819.length co118)) rfl) (fun _ h_ => h_.1))) hb); have n5_ := Aside0.mk (blk_below (g := gb786) (o := .cells #[.slice A0_0 l0_0.length c0_0] 24 (0, 0)) (by (with_reducible repeat (first | refine blk_drewN ?_ _ | refine blk_drew ?_ | refine blk_alloc ?_ _)); refine blk_far ?_ NB786_823.out _; (with_reducible repeat (first | refine blk_drewN ?_ _ | refine blk_drew ?_ | refine blk_alloc ?_ _)); exact BK786.out) hb); have n6_ := Aside0.mk (blk_below (g := gb795) (o := .cells #[.slice Ao20 t791.length co20] 30 (0, 0)) (by (with_reducible repeat (first | refine blk_drewN ?_ _ | refine blk_drew ?_ | refine blk_alloc ?_ _)); refine blk_far ?_ NB795_823.out _; (with_reducible repeat (first | refine blk_drewN ?_ _ | refine blk_drew ?_ | refine blk_alloc ?_ _)); exact BK795.out) hb); have n7_ := Aside0.mk (blk_below (g := gb799) (o := .cells #[.slice Ao26 t811.length co26] 30 (0, 0)) (by (with_reducible repeat (first | refine blk_drewN ?_ _ | refine blk_drew ?_ | refine blk_alloc ?_ _)); refine blk_far ?_ NB799_823.out _; (with_reducible repeat (first | refine blk_drewN ?_ _ | refine blk_drew ?_ | refine blk_alloc ?_ _)); exact BK799.out) hb); have n8_ := Aside0.mk (blk_below (g := gb804) (o := .cells #[.slice Ao32 t800.length co32] 30 (0, 0)) (by (with_reducible repeat (first | refine blk_drewN ?_ _ | refine blk_drew ?_ | refine blk_alloc ?_ _)); refine blk_far ?_ NB804_823.out _; (with_reducible repeat (first | refine blk_drewN ?_ _ | refine blk_drew ?_ | refine blk_alloc ?_ _)); exact BK804.out) hb); have n9_ := Aside0.mk (blk_below (g := gb823) (o := .cells #[.slice Ao118 t819.length co118] 30 (0, 0)) (by (with_reducible repeat (first | refine blk_drewN ?_ _ | refine blk_drew ?_ | refine blk_alloc ?_ _)); refine blk_put (cs := #[.slice none 0 0]) ?_ 0 _ rfl; (with_reducible repeat (first | refine blk_drewN ?_ _ | refine blk_drew ?_ | refine blk_alloc ?_ _)); exact BK823.out) hb); have n10_ := Aside0.mk (below_step (by repeat (first | (with_reducible first | exact HB.out | apply below_alloc | apply pw_below_drewN | apply below_drew1 | refine below_set ?_ GE786.out | refine below_set ?_ GE795.out | refine below_set ?_ GE799.out | refine below_set ?_ GE804.out | refine below_set ?_ GE823.out) | exact HB.out)) hb); clear HO_796000; clear HO_800000; clear HO_805000; clear HO818; clear HO821; clear BK786; clear BK795; clear BK799; clear BK804; clear BK823; clear HB; have HO_796000 := n0_; have HO_800000 := n1_; have HO_805000 := n2_; have HO818 := n3_; have HO821 := n4_; have BK786 := n5_; have BK795 := n6_; have BK799 := n7_; have BK804 := n8_; have BK823 := n9_; have HB := n10_; clear n0_ n1_ n2_ n3_ n4_ n5_ n6_ n7_ n8_ n9_ n10_; (try clear hb); (try clear hb2); (try clear hk); (try clear hi)))
                          go_meet
                          case rel => exact ⟨_, ((t822 != t794)), (by first | rfl | (simp; done) | (simp [*]; done)), H', ⟨by have := HJ10.out; have := HJ59.out; first | omega | exact Nat.le_refl _⟩, ⟨by (try simp only [hl800000_59]); (with_reducible repeat (first | apply Kd.R_alloc | apply Kd.R_drewN | apply Kd.R_drew)); exact Kd.R_mono HO_796000.out (fun _ hk => ⟨hk.1.1.1, ⟨hk.1.1.2, hk.2⟩⟩)⟩, ⟨by (try simp only [hl800000_59]); (with_reducible repeat (first | apply Kd.R_alloc | apply Kd.R_drewN | apply Kd.R_drew)); exact Kd.R_mono HO_800000.out (fun _ hk => ⟨hk.1.1.1, ⟨hk.1.1.2, hk.2⟩⟩)⟩, ⟨by (try simp only [hl800000_59]); (with_reducible repeat (first | apply Kd.R_alloc | apply Kd.R_drewN | apply Kd.R_drew)); exact Kd.R_mono HO_805000.out (fun _ hk => ⟨hk.1.1.1, ⟨hk.1.1.2, hk.2⟩⟩)⟩, ⟨by (try simp only [hl800000_59]); (with_reducible repeat (first | apply Kd.R_alloc | apply Kd.R_drewN | apply Kd.R_drew)); exact Kd.R_mono HO821.out (fun _ hk => ⟨hk.1.1.1.2, ⟨hk.1.1.2, hk.1.2⟩⟩)⟩, ⟨by (try simp only [hl800000_59]); (with_reducible repeat (first | refine blk_drewN ?_ _ | refine blk_drew ?_ | refine blk_alloc ?_ _)); exact BK786.out⟩, ⟨by (try simp only [hl800000_59]); (with_reducible repeat (first | refine blk_drewN ?_ _ | refine blk_drew ?_ | refine blk_alloc ?_ _)); exact BK795.out⟩, ⟨by (try simp only [hl800000_59]); (with_reducible repeat (first | refine blk_drewN ?_ _ | refine blk_drew ?_ | refine blk_alloc ?_ _)); exact BK799.out⟩, ⟨by (try simp only [hl800000_59]); (with_reducible repeat (first | refine blk_drewN ?_ _ | refine blk_drew ?_ | refine blk_alloc ?_ _)); exact BK804.out⟩, ⟨by (try simp only [hl800000_59]); (with_reducible repeat (first | refine blk_drewN ?_ _ | refine blk_drew ?_ | refine blk_alloc ?_ _)); exact BK823.out⟩, ⟨by repeat (first | (with_reducible first | exact HB.out | apply below_alloc | apply pw_below_drewN | apply below_drew1 | refine below_set ?_ GE786.out | refine below_set ?_ GE795.out | refine below_set ?_ GE799.out | refine below_set ?_ GE804.out | refine below_set ?_ GE823.out) | exact HB.out)⟩⟩
                        · replace c125 := Bool.eq_false_iff.mpr c125
                          subst c125
                          have H1 : (laws_FnExactLastWords.j2 kj59 t813 true t814) = some r := by rw [if_neg (show ¬ (false = true) by decide)] at H; exact H
                          clear H
                          have H := H1
                          clear H1
                          have H' := Aside0.mk H
                          clear H
                          have hnb136 := NB823_786.out
                          have hnc136 := NB786_823.out
                          have hnb137 := NB823_795.out
                          have hnc137 := NB795_823.out
                          have hnb138 := NB823_799.out
                          have hnc138 := NB799_823.out
                          have hnb139 := NB823_804.out
                          have hnc139 := NB804_823.out
                          have hcz140_0 : w117.cell? ⟨gb823, 0, none⟩ = some (.slice none 0 0) := (blk_cell BK823.out 0).trans rfl
                          have hfz140_0 := blk_frozen BK823.out 0
                          have hnb141 := NB795_786.out
                          have hnc141 := NB786_795.out
                          have hnb142 := NB795_799.out
                          have hnc142 := NB799_795.out
                          have hnb143 := NB795_804.out
                          have hnc143 := NB804_795.out
                          have hcz144_0 : w117.cell? ⟨gb795, 0, none⟩ = some (.slice Ao20 t791.length co20) := (blk_cell BK795.out 0).trans rfl
                          have hfz144_0 := blk_frozen BK795.out 0
                          go_wp2_with (first | ((with_reducible refine gate_callee (f := 19) rfl ?_); refine goesL_ (some 81) rfl rfl Try.func19 (by kernel_rfl) rfl #[.agg #[.slice Ao118 t819.length co118], .agg #[.slice Ao20 t791.length co20]] rfl (by (try simp only [List.map_toArray, List.map_cons, List.map_nil]); first | done | rfl | (simp only [List.length_drop, List.length_take]; rfl)) ?_; (with_reducible refine (laws_eqTrie.calls kj59 _ _ t819 _ _ t791 false _ ?side1 ?side2 ?side3 ?side4 A124.out).mono ?_); (case side1 => refine (Kd.R_reads' (e := 86) (base := w.heap.size) (ok := fun k_ => ((((True ∧ some k_ ≠ (.slice Ao20 t791.length co20 : Value).ownBlock) ∧ some k_ ≠ (.slice Ao26 t811.length co26 : Value).ownBlock) ∧ some k_ ≠ (.slice Ao32 t800.length co32 : Value).ownBlock) ∧ some k_ ≠ (.slice Ao115 t816.length co115 : Value).ownBlock)) (n := t819.length) (c := co118) ?_).2.2; exact (by (with_reducible repeat (first | apply Kd.R_alloc | apply Kd.R_drewN | apply Kd.R_drew)); exact (Kd.R_mono (R_same_ (Kd.R_far (p := ⟨gb823, 0, none⟩) (Kd.R_types HO821.out BK823.out (by decide)) (fun _ hk => hk.2) (.slice Ao118 t819.length co118)) rfl) (fun _ h_ => h_.1)))); (case side2 => exact (Kd.R_reads' HO821.out).2.1); (case side3 => refine (Kd.R_reads' (e := 86) (base := w.heap.size) (ok := fun k_ => (((some k_ ≠ (.slice Ao26 t811.length co26 : Value).ownBlock ∧ some k_ ≠ (.slice Ao32 t800.length co32 : Value).ownBlock) ∧ some k_ ≠ (.slice Ao115 t816.length co115 : Value).ownBlock) ∧ some k_ ≠ (.slice Ao118 t819.length co118 : Value).ownBlock)) (n := t791.length) (c := co20) ?_).2.2; exact (by (with_reducible repeat (first | apply Kd.R_alloc | apply Kd.R_drewN | apply Kd.R_drew)); exact (Kd.R_mono (R_same_ (Kd.R_far (p := ⟨gb823, 0, none⟩) (Kd.R_types HO_796000.out BK823.out (by decide)) (fun _ hk => hk.2) (.slice Ao118 t819.length co118)) rfl) (fun _ h_ => h_.1)))); (case side4 => exact (Kd.R_reads' HO_796000.out).2.1); rintro e w145 ⟨rfl, hb⟩; refine ⟨_, rfl, ?_⟩; have n0_ := Aside0.mk (Kd.R_below (by (with_reducible repeat (first | apply Kd.R_alloc | apply Kd.R_drewN | apply Kd.R_drew)); exact (Kd.R_mono (R_same_ (Kd.R_far (p := ⟨gb823, 0, none⟩) (Kd.R_types HO_796000.out BK823.out (by decide)) (fun _ hk => hk.2) (.slice Ao118 t819.length co118)) rfl) (fun _ h_ => h_.1))) hb); have n1_ := Aside0.mk (Kd.R_below (by (with_reducible repeat (first | apply Kd.R_alloc | apply Kd.R_drewN | apply Kd.R_drew)); exact (Kd.R_mono (R_same_ (Kd.R_far (p := ⟨gb823, 0, none⟩) (Kd.R_types HO_800000.out BK823.out (by decide)) (fun _ hk => hk.2) (.slice Ao118 t819.length co118)) rfl) (fun _ h_ => h_.1))) hb); have n2_ := Aside0.mk (Kd.R_below (by (with_reducible repeat (first | apply Kd.R_alloc | apply Kd.R_drewN | apply Kd.R_drew)); exact (Kd.R_mono (R_same_ (Kd.R_far (p := ⟨gb823, 0, none⟩) (Kd.R_types HO_805000.out BK823.out (by decide)) (fun _ hk => hk.2) (.slice Ao118 t819.length co118)) rfl) (fun _ h_ => h_.1))) hb); have n3_ := Aside0.mk (Kd.R_below (by (with_reducible repeat (first | apply Kd.R_alloc | apply Kd.R_drewN | apply Kd.R_drew)); exact (Kd.R_mono (R_same_ (Kd.R_far (p := ⟨gb823, 0, none⟩) (Kd.R_types HO818.out BK823.out (by decide)) (fun _ hk => hk.2) (.slice Ao118 t819.length co118)) rfl) (fun _ h_ => h_.1))) hb); have n4_ := Aside0.mk (Kd.R_below (by (with_reducible repeat (first | apply Kd.R_alloc | apply Kd.R_drewN | apply Kd.R_drew)); exact (Kd.R_mono (R_same_ (Kd.R_far (p := ⟨gb823, 0, none⟩) (Kd.R_types HO821.out BK823.out (by decide)) (fun _ hk => hk.2) (.slice Ao118 t819.length co118)) rfl) (fun _ h_ => h_.1))) hb); have n5_ := Aside0.mk (blk_below (g := gb786) (o := .cells #[.slice A0_0 l0_0.length c0_0] 24 (0, 0)) (by (with_reducible repeat (first | refine blk_drewN ?_ _ | refine blk_drew ?_ | refine blk_alloc ?_ _)); refine blk_far ?_ NB786_823.out _; (with_reducible repeat (first | refine blk_drewN ?_ _ | refine blk_drew ?_ | refine blk_alloc ?_ _)); exact BK786.out) hb); have n6_ := Aside0.mk (blk_below (g := gb795) (o := .cells #[.slice Ao20 t791.length co20] 30 (0, 0)) (by (with_reducible repeat (first | refine blk_drewN ?_ _ | refine blk_drew ?_ | refine blk_alloc ?_ _)); refine blk_far ?_ NB795_823.out _; (with_reducible repeat (first | refine blk_drewN ?_ _ | refine blk_drew ?_ | refine blk_alloc ?_ _)); exact BK795.out) hb); have n7_ := Aside0.mk (blk_below (g := gb799) (o := .cells #[.slice Ao26 t811.length co26] 30 (0, 0)) (by (with_reducible repeat (first | refine blk_drewN ?_ _ | refine blk_drew ?_ | refine blk_alloc ?_ _)); refine blk_far ?_ NB799_823.out _; (with_reducible repeat (first | refine blk_drewN ?_ _ | refine blk_drew ?_ | refine blk_alloc ?_ _)); exact BK799.out) hb); have n8_ := Aside0.mk (blk_below (g := gb804) (o := .cells #[.slice Ao32 t800.length co32] 30 (0, 0)) (by (with_reducible repeat (first | refine blk_drewN ?_ _ | refine blk_drew ?_ | refine blk_alloc ?_ _)); refine blk_far ?_ NB804_823.out _; (with_reducible repeat (first | refine blk_drewN ?_ _ | refine blk_drew ?_ | refine blk_alloc ?_ _)); exact BK804.out) hb); have n9_ := Aside0.mk (blk_below (g := gb823) (o := .cells #[.slice Ao118 t819.length co118] 30 (0, 0)) (by (with_reducible repeat (first | refine blk_drewN ?_ _ | refine blk_drew ?_ | refine blk_alloc ?_ _)); refine blk_put (cs := #[.slice none 0 0]) ?_ 0 _ rfl; (with_reducible repeat (first | refine blk_drewN ?_ _ | refine blk_drew ?_ | refine blk_alloc ?_ _)); exact BK823.out) hb); have n10_ := Aside0.mk (below_step (by repeat (first | (with_reducible first | exact HB.out | apply below_alloc | apply pw_below_drewN | apply below_drew1 | refine below_set ?_ GE786.out | refine below_set ?_ GE795.out | refine below_set ?_ GE799.out | refine below_set ?_ GE804.out | refine below_set ?_ GE823.out) | exact HB.out)) hb); clear HO_796000; clear HO_800000; clear HO_805000; clear HO818; clear HO821; clear BK786; clear BK795; clear BK799; clear BK804; clear BK823; clear HB; have HO_796000 := n0_; have HO_800000 := n1_; have HO_805000 := n2_; have HO818 := n3_; have HO821 := n4_; have BK786 := n5_; have BK795 := n6_; have BK799 := n7_; have BK804 := n8_; have BK823 := n9_; have HB := n10_; clear n0_ n1_ n2_ n3_ n4_ n5_ n6_ n7_ n8_ n9_ n10_; (try clear hb); (try clear hb2); (try clear hk); (try clear hi)))
                          go_meet
                          case rel => exact ⟨_, (true), (by first | rfl | (simp; done) | (simp [*]; done)), H', ⟨by have := HJ10.out; have := HJ59.out; first | omega | exact Nat.le_refl _⟩, ⟨by (try simp only [hl800000_59]); (with_reducible repeat (first | apply Kd.R_alloc | apply Kd.R_drewN | apply Kd.R_drew)); exact Kd.R_mono HO_796000.out (fun _ hk => ⟨hk.1.1.1, ⟨hk.1.1.2, hk.2⟩⟩)⟩, ⟨by (try simp only [hl800000_59]); (with_reducible repeat (first | apply Kd.R_alloc | apply Kd.R_drewN | apply Kd.R_drew)); exact Kd.R_mono HO_800000.out (fun _ hk => ⟨hk.1.1.1, ⟨hk.1.1.2, hk.2⟩⟩)⟩, ⟨by (try simp only [hl800000_59]); (with_reducible repeat (first | apply Kd.R_alloc | apply Kd.R_drewN | apply Kd.R_drew)); exact Kd.R_mono HO_805000.out (fun _ hk => ⟨hk.1.1.1, ⟨hk.1.1.2, hk.2⟩⟩)⟩, ⟨by (try simp only [hl800000_59]); (with_reducible repeat (first | apply Kd.R_alloc | apply Kd.R_drewN | apply Kd.R_drew)); exact Kd.R_mono HO821.out (fun _ hk => ⟨hk.1.1.1.2, ⟨hk.1.1.2, hk.1.2⟩⟩)⟩, ⟨by (try simp only [hl800000_59]); (with_reducible repeat (first | refine blk_drewN ?_ _ | refine blk_drew ?_ | refine blk_alloc ?_ _)); exact BK786.out⟩, ⟨by (try simp only [hl800000_59]); (with_reducible repeat (first | refine blk_drewN ?_ _ | refine blk_drew ?_ | refine blk_alloc ?_ _)); exact BK795.out⟩, ⟨by (try simp only [hl800000_59]); (with_reducible repeat (first | refine blk_drewN ?_ _ | refine blk_drew ?_ | refine blk_alloc ?_ _)); exact BK799.out⟩, ⟨by (try simp only [hl800000_59]); (with_reducible repeat (first | refine blk_drewN ?_ _ | refine blk_drew ?_ | refine blk_alloc ?_ _)); exact BK804.out⟩, ⟨by (try simp only [hl800000_59]); (with_reducible repeat (first | refine blk_drewN ?_ _ | refine blk_drew ?_ | refine blk_alloc ?_ _)); exact BK823.out⟩, ⟨by repeat (first | (with_reducible first | exact HB.out | apply below_alloc | apply pw_below_drewN | apply below_drew1 | refine below_set ?_ GE786.out | refine below_set ?_ GE795.out | refine below_set ?_ GE799.out | refine below_set ?_ GE804.out | refine below_set ?_ GE823.out) | exact HB.out)⟩⟩
                      case rest =>
                        clear HC103
                        try clear c1
                        try clear c2
                        try clear p2
                        try clear c3
                        try clear c3b0
                        try clear c4
                        try clear c5
                        try clear c6
                        try clear c7
                        try clear c8
                        try clear c9
                        try clear c10
                        try clear c11
                        try clear c12
                        try clear c13
                        try clear c14
                        try clear c15
                        try clear c17
                        try clear c19
                        try clear c21
                        try clear c27
                        try clear c28
                        try clear c33
                        try clear c34
                        try clear c35
                        try clear c38
                        try clear c39
                        try clear c40
                        try clear c41
                        try clear c43
                        try clear c44
                        try clear c47
                        try clear c48
                        try clear c49
                        try clear c51
                        try clear c52
                        try clear c55
                        try clear c58
                        try clear c65
                        try clear c66
                        try clear c67
                        try clear c70
                        try clear c70b0
                        try clear c72
                        try clear c73
                        try clear c74
                        try clear c75
                        try clear c77
                        try clear c78
                        try clear c81
                        try clear c82
                        try clear c83
                        try clear c85
                        try clear c86
                        try clear c89
                        try clear c92
                        try clear c92b0
                        try clear c93
                        try clear c94
                        try clear c95
                        try clear c100
                        try clear c100b0
                        try clear c100b1
                        try clear c104
                        try clear c105
                        try clear c106
                        try clear c111
                        try clear c112
                        try clear c119
                        try clear c120
                        try clear c121
                        try clear c122
                        try clear c125
                        try clear c126
                        try clear c127
                        try clear c128
                        try clear c129
                        try clear c131
                        try clear c132
                        try clear c133
                        try clear c136
                        try clear c137
                        try clear c138
                        try clear c139
                        try clear c141
                        try clear c142
                        try clear c143
                        try clear hcz107_0
                        try clear hcz109_0
                        try clear hcz113_0
                        try clear hcz123_0
                        try clear hcz130_0
                        try clear hcz134_0
                        try clear hcz13_0
                        try clear hcz140_0
                        try clear hcz144_0
                        try clear hcz15_0
                        try clear hcz22_0
                        try clear hcz23_0
                        try clear hcz29_0
                        try clear hcz36_0
                        try clear hcz42_0
                        try clear hcz45_0
                        try clear hcz50_0
                        try clear hcz53_0
                        try clear hcz5_0
                        try clear hcz68_0
                        try clear hcz76_0
                        try clear hcz79_0
                        try clear hcz84_0
                        try clear hcz87_0
                        try clear hcz96_0
                        try clear hcz98_0
                        try clear hfz107_0
                        try clear hfz109_0
                        try clear hfz113_0
                        try clear hfz123_0
                        try clear hfz130_0
                        try clear hfz134_0
                        try clear hfz13_0
                        try clear hfz140_0
                        try clear hfz144_0
                        try clear hfz15_0
                        try clear hfz22_0
                        try clear hfz23_0
                        try clear hfz29_0
                        try clear hfz36_0
                        try clear hfz42_0
                        try clear hfz45_0
                        try clear hfz50_0
                        try clear hfz53_0
                        try clear hfz5_0
                        try clear hfz68_0
                        try clear hfz76_0
                        try clear hfz79_0
                        try clear hfz84_0
                        try clear hfz87_0
                        try clear hfz96_0
                        try clear hfz98_0
                        try clear p2
                        obtain ⟨kq, x87_102, rfl, HA, HJ102, HO_796000, HO_800000, HO_805000, HO_824000, BK786, BK795, BK799, BK804, BK823, HB⟩ := hcut
                        have hl805000_102 := (Kd.R_reads' HO_805000.out).1
                        rw [hl805000_102] at HO_805000
                        (try simp only [hl805000_102])
                        (try simp only [hl805000_102] at BK786)
                        (try simp only [hl805000_102] at BK795)
                        (try simp only [hl805000_102] at BK799)
                        (try simp only [hl805000_102] at BK804)
                        (try simp only [hl805000_102] at BK823)
                        (try simp only [hl805000_102] at HO_796000)
                        (try simp only [hl805000_102] at HO_800000)
                        (try simp only [hl805000_102] at HO_824000)
                        cases kq with
                        | zero => exact absurd HA.out (by simp [laws_FnExactLastWords.j2])
                        | succ kj102 =>
                          have H := HA.out
                          clear HA
                          simp only [laws_FnExactLastWords.j2] at H
                          by_cases c146 : x87_102 = true
                          · subst c146
                            have H1 : (some false) = some r := by rw [if_pos rfl] at H; exact H
                            clear H
                            have H := H1
                            clear H1
                            obtain rfl := Option.some.inj H
                            go_wp2
                            go_ret
                            exact ⟨by first | rfl | (simp [errW_none, errW_some] <;> rfl) | (simp [*, errW_none, errW_some] <;> rfl), by repeat (first | (with_reducible first | exact HB.out | apply below_alloc | apply pw_below_drewN | apply below_drew1 | refine below_set ?_ GE786.out | refine below_set ?_ GE795.out | refine below_set ?_ GE799.out | refine below_set ?_ GE804.out | refine below_set ?_ GE823.out) | exact HB.out)⟩
                          · replace c146 := Bool.eq_false_iff.mpr c146
                            subst c146
                            have H1 : ((laws_heldTrie.f kj102 t814 1).bind fun t825 => (if t825 < 0 then (some false) else (if t825 = t813 then (some true) else (some false)))) = some r := by rw [if_neg (show ¬ (false = true) by decide)] at H; exact H
                            clear H
                            have H := H1
                            clear H1
                            replace H := Option.bind_eq_some_iff.mp H
                            obtain ⟨t825, A1470, H⟩ := H
                            replace H : (if t825 < 0 then (some false) else (if t825 = t813 then (some true) else (some false))) = some r := H
                            have A147 := Aside0.mk A1470
                            clear A1470
                            by_cases c148 : t825 < 0
                            · rw [if_pos c148] at H
                              have c148b0 : decide (t825 < 0) = true := decide_eq_true c148
                              clear c148
                              obtain rfl := Option.some.inj H
                              have hnb149 := NB804_786.out
                              have hnc149 := NB786_804.out
                              have hnb150 := NB804_795.out
                              have hnc150 := NB795_804.out
                              have hnb151 := NB804_799.out
                              have hnc151 := NB799_804.out
                              have hnb152 := NB804_823.out
                              have hnc152 := NB823_804.out
                              have hcz153_0 : wc.cell? ⟨gb804, 0, none⟩ = some (.slice Ao32 t814.length co32) := (blk_cell BK804.out 0).trans rfl
                              have hfz153_0 := blk_frozen BK804.out 0
                              go_wp2_with (first | ((with_reducible refine gate_callee (f := 38) rfl ?_); refine goesL_ (some 90) rfl rfl Try.func38 (by kernel_rfl) rfl #[.agg #[.slice Ao32 t814.length co32], .int .i64 1] rfl (by (try simp only [List.map_toArray, List.map_cons, List.map_nil]); first | done | rfl | (simp only [List.length_drop, List.length_take]; rfl)) ?_; (with_reducible refine (laws_heldTrie.calls kj102 _ _ t814 1 t825 _ ?side1 ?side2 A147.out).mono ?_); (case side1 => repeat (first | exact (Kd.R_reads' HO_805000.out).2.2 | (with_reducible refine Kd.C_alloc ?_ _) | (with_reducible refine Kd.C_drewN ?_ _) | (with_reducible refine Kd.C_drew ?_))); (case side2 => exact (Kd.R_reads' HO_805000.out).2.1); rintro e w154 ⟨rfl, hb⟩; refine ⟨_, rfl, ?_⟩; have n0_ := Aside0.mk (Kd.R_below (by (with_reducible repeat (first | apply Kd.R_alloc | apply Kd.R_drewN | apply Kd.R_drew)); exact HO_796000.out) hb); have n1_ := Aside0.mk (Kd.R_below (by (with_reducible repeat (first | apply Kd.R_alloc | apply Kd.R_drewN | apply Kd.R_drew)); exact HO_800000.out) hb); have n2_ := Aside0.mk (Kd.R_below (by (with_reducible repeat (first | apply Kd.R_alloc | apply Kd.R_drewN | apply Kd.R_drew)); exact HO_805000.out) hb); have n3_ := Aside0.mk (Kd.R_below (by (with_reducible repeat (first | apply Kd.R_alloc | apply Kd.R_drewN | apply Kd.R_drew)); exact HO_824000.out) hb); have n4_ := Aside0.mk (blk_below (g := gb786) (o := .cells #[.slice A0_0 l0_0.length c0_0] 24 (0, 0)) (by (with_reducible repeat (first | refine blk_drewN ?_ _ | refine blk_drew ?_ | refine blk_alloc ?_ _)); exact BK786.out) hb); have n5_ := Aside0.mk (blk_below (g := gb795) (o := .cells #[.slice Ao20 t791.length co20] 30 (0, 0)) (by (with_reducible repeat (first | refine blk_drewN ?_ _ | refine blk_drew ?_ | refine blk_alloc ?_ _)); exact BK795.out) hb); have n6_ := Aside0.mk (blk_below (g := gb799) (o := .cells #[.slice Ao26 t811.length co26] 30 (0, 0)) (by (with_reducible repeat (first | refine blk_drewN ?_ _ | refine blk_drew ?_ | refine blk_alloc ?_ _)); exact BK799.out) hb); have n7_ := Aside0.mk (blk_below (g := gb804) (o := .cells #[.slice Ao32 t814.length co32] 30 (0, 0)) (by (with_reducible repeat (first | refine blk_drewN ?_ _ | refine blk_drew ?_ | refine blk_alloc ?_ _)); exact BK804.out) hb); have n8_ := Aside0.mk (blk_below (g := gb823) (o := .cells #[.slice Ao118 t819.length co118] 30 (0, 0)) (by (with_reducible repeat (first | refine blk_drewN ?_ _ | refine blk_drew ?_ | refine blk_alloc ?_ _)); exact BK823.out) hb); have n9_ := Aside0.mk (below_step (by repeat (first | (with_reducible first | exact HB.out | apply below_alloc | apply pw_below_drewN | apply below_drew1 | refine below_set ?_ GE786.out | refine below_set ?_ GE795.out | refine below_set ?_ GE799.out | refine below_set ?_ GE804.out | refine below_set ?_ GE823.out) | exact HB.out)) hb); clear HO_796000; clear HO_800000; clear HO_805000; clear HO_824000; clear BK786; clear BK795; clear BK799; clear BK804; clear BK823; clear HB; have HO_796000 := n0_; have HO_800000 := n1_; have HO_805000 := n2_; have HO_824000 := n3_; have BK786 := n4_; have BK795 := n5_; have BK799 := n6_; have BK804 := n7_; have BK823 := n8_; have HB := n9_; clear n0_ n1_ n2_ n3_ n4_ n5_ n6_ n7_ n8_ n9_; (try clear hb); (try clear hb2); (try clear hk); (try clear hi)))
                              go_ret
                              exact ⟨by first | rfl | (simp [errW_none, errW_some] <;> rfl) | (simp [*, errW_none, errW_some] <;> rfl), by repeat (first | (with_reducible first | exact HB.out | apply below_alloc | apply pw_below_drewN | apply below_drew1 | refine below_set ?_ GE786.out | refine below_set ?_ GE795.out | refine below_set ?_ GE799.out | refine below_set ?_ GE804.out | refine below_set ?_ GE823.out) | exact HB.out)⟩
                            · rw [if_neg c148] at H
                              have c148b0 : decide (t825 < 0) = false := decide_eq_false c148
                              clear c148
                              by_cases c155 : t825 = t813
                              · rw [if_pos c155] at H
                                have c155b0 : (t825 == t813) = true := beq_iff_eq.mpr c155
                                have c155b1 : (t825 != t813) = false := bne_eq_false_iff_eq.mpr c155
                                clear c155
                                obtain rfl := Option.some.inj H
                                have hnb156 := NB804_786.out
                                have hnc156 := NB786_804.out
                                have hnb157 := NB804_795.out
                                have hnc157 := NB795_804.out
                                have hnb158 := NB804_799.out
                                have hnc158 := NB799_804.out
                                have hnb159 := NB804_823.out
                                have hnc159 := NB823_804.out
                                have hcz160_0 : wc.cell? ⟨gb804, 0, none⟩ = some (.slice Ao32 t814.length co32) := (blk_cell BK804.out 0).trans rfl
                                have hfz160_0 := blk_frozen BK804.out 0
                                go_wp2_with (first | ((with_reducible refine gate_callee (f := 38) rfl ?_); refine goesL_ (some 90) rfl rfl Try.func38 (by kernel_rfl) rfl #[.agg #[.slice Ao32 t814.length co32], .int .i64 1] rfl (by (try simp only [List.map_toArray, List.map_cons, List.map_nil]); first | done | rfl | (simp only [List.length_drop, List.length_take]; rfl)) ?_; (with_reducible refine (laws_heldTrie.calls kj102 _ _ t814 1 t825 _ ?side1 ?side2 A147.out).mono ?_); (case side1 => repeat (first | exact (Kd.R_reads' HO_805000.out).2.2 | (with_reducible refine Kd.C_alloc ?_ _) | (with_reducible refine Kd.C_drewN ?_ _) | (with_reducible refine Kd.C_drew ?_))); (case side2 => exact (Kd.R_reads' HO_805000.out).2.1); rintro e w161 ⟨rfl, hb⟩; refine ⟨_, rfl, ?_⟩; have n0_ := Aside0.mk (Kd.R_below (by (with_reducible repeat (first | apply Kd.R_alloc | apply Kd.R_drewN | apply Kd.R_drew)); exact HO_796000.out) hb); have n1_ := Aside0.mk (Kd.R_below (by (with_reducible repeat (first | apply Kd.R_alloc | apply Kd.R_drewN | apply Kd.R_drew)); exact HO_800000.out) hb); have n2_ := Aside0.mk (Kd.R_below (by (with_reducible repeat (first | apply Kd.R_alloc | apply Kd.R_drewN | apply Kd.R_drew)); exact HO_805000.out) hb); have n3_ := Aside0.mk (Kd.R_below (by (with_reducible repeat (first | apply Kd.R_alloc | apply Kd.R_drewN | apply Kd.R_drew)); exact HO_824000.out) hb); have n4_ := Aside0.mk (blk_below (g := gb786) (o := .cells #[.slice A0_0 l0_0.length c0_0] 24 (0, 0)) (by (with_reducible repeat (first | refine blk_drewN ?_ _ | refine blk_drew ?_ | refine blk_alloc ?_ _)); exact BK786.out) hb); have n5_ := Aside0.mk (blk_below (g := gb795) (o := .cells #[.slice Ao20 t791.length co20] 30 (0, 0)) (by (with_reducible repeat (first | refine blk_drewN ?_ _ | refine blk_drew ?_ | refine blk_alloc ?_ _)); exact BK795.out) hb); have n6_ := Aside0.mk (blk_below (g := gb799) (o := .cells #[.slice Ao26 t811.length co26] 30 (0, 0)) (by (with_reducible repeat (first | refine blk_drewN ?_ _ | refine blk_drew ?_ | refine blk_alloc ?_ _)); exact BK799.out) hb); have n7_ := Aside0.mk (blk_below (g := gb804) (o := .cells #[.slice Ao32 t814.length co32] 30 (0, 0)) (by (with_reducible repeat (first | refine blk_drewN ?_ _ | refine blk_drew ?_ | refine blk_alloc ?_ _)); exact BK804.out) hb); have n8_ := Aside0.mk (blk_below (g := gb823) (o := .cells #[.slice Ao118 t819.length co118] 30 (0, 0)) (by (with_reducible repeat (first | refine blk_drewN ?_ _ | refine blk_drew ?_ | refine blk_alloc ?_ _)); exact BK823.out) hb); have n9_ := Aside0.mk (below_step (by repeat (first | (with_reducible first | exact HB.out | apply below_alloc | apply pw_below_drewN | apply below_drew1 | refine below_set ?_ GE786.out | refine below_set ?_ GE795.out | refine below_set ?_ GE799.out | refine below_set ?_ GE804.out | refine below_set ?_ GE823.out) | exact HB.out)) hb); clear HO_796000; clear HO_800000; clear HO_805000; clear HO_824000; clear BK786; clear BK795; clear BK799; clear BK804; clear BK823; clear HB; have HO_796000 := n0_; have HO_800000 := n1_; have HO_805000 := n2_; have HO_824000 := n3_; have BK786 := n4_; have BK795 := n5_; have BK799 := n6_; have BK804 := n7_; have BK823 := n8_; have HB := n9_; clear n0_ n1_ n2_ n3_ n4_ n5_ n6_ n7_ n8_ n9_; (try clear hb); (try clear hb2); (try clear hk); (try clear hi)))
                                go_ret
                                exact ⟨by first | rfl | (simp [errW_none, errW_some] <;> rfl) | (simp [*, errW_none, errW_some] <;> rfl), by repeat (first | (with_reducible first | exact HB.out | apply below_alloc | apply pw_below_drewN | apply below_drew1 | refine below_set ?_ GE786.out | refine below_set ?_ GE795.out | refine below_set ?_ GE799.out | refine below_set ?_ GE804.out | refine below_set ?_ GE823.out) | exact HB.out)⟩
                              · rw [if_neg c155] at H
                                have c155b0 : (t825 == t813) = false := beq_eq_false_iff_ne.mpr c155
                                have c155b1 : (t825 != t813) = true := bne_iff_ne.mpr c155
                                obtain rfl := Option.some.inj H
                                have hnb162 := NB804_786.out
                                have hnc162 := NB786_804.out
                                have hnb163 := NB804_795.out
                                have hnc163 := NB795_804.out
                                have hnb164 := NB804_799.out
                                have hnc164 := NB799_804.out
                                have hnb165 := NB804_823.out
                                have hnc165 := NB823_804.out
                                have hcz166_0 : wc.cell? ⟨gb804, 0, none⟩ = some (.slice Ao32 t814.length co32) := (blk_cell BK804.out 0).trans rfl
                                have hfz166_0 := blk_frozen BK804.out 0
                                go_wp2_with (first | ((with_reducible refine gate_callee (f := 38) rfl ?_); refine goesL_ (some 90) rfl rfl Try.func38 (by kernel_rfl) rfl #[.agg #[.slice Ao32 t814.length co32], .int .i64 1] rfl (by (try simp only [List.map_toArray, List.map_cons, List.map_nil]); first | done | rfl | (simp only [List.length_drop, List.length_take]; rfl)) ?_; (with_reducible refine (laws_heldTrie.calls kj102 _ _ t814 1 t825 _ ?side1 ?side2 A147.out).mono ?_); (case side1 => repeat (first | exact (Kd.R_reads' HO_805000.out).2.2 | (with_reducible refine Kd.C_alloc ?_ _) | (with_reducible refine Kd.C_drewN ?_ _) | (with_reducible refine Kd.C_drew ?_))); (case side2 => exact (Kd.R_reads' HO_805000.out).2.1); rintro e w167 ⟨rfl, hb⟩; refine ⟨_, rfl, ?_⟩; have n0_ := Aside0.mk (Kd.R_below (by (with_reducible repeat (first | apply Kd.R_alloc | apply Kd.R_drewN | apply Kd.R_drew)); exact HO_796000.out) hb); have n1_ := Aside0.mk (Kd.R_below (by (with_reducible repeat (first | apply Kd.R_alloc | apply Kd.R_drewN | apply Kd.R_drew)); exact HO_800000.out) hb); have n2_ := Aside0.mk (Kd.R_below (by (with_reducible repeat (first | apply Kd.R_alloc | apply Kd.R_drewN | apply Kd.R_drew)); exact HO_805000.out) hb); have n3_ := Aside0.mk (Kd.R_below (by (with_reducible repeat (first | apply Kd.R_alloc | apply Kd.R_drewN | apply Kd.R_drew)); exact HO_824000.out) hb); have n4_ := Aside0.mk (blk_below (g := gb786) (o := .cells #[.slice A0_0 l0_0.length c0_0] 24 (0, 0)) (by (with_reducible repeat (first | refine blk_drewN ?_ _ | refine blk_drew ?_ | refine blk_alloc ?_ _)); exact BK786.out) hb); have n5_ := Aside0.mk (blk_below (g := gb795) (o := .cells #[.slice Ao20 t791.length co20] 30 (0, 0)) (by (with_reducible repeat (first | refine blk_drewN ?_ _ | refine blk_drew ?_ | refine blk_alloc ?_ _)); exact BK795.out) hb); have n6_ := Aside0.mk (blk_below (g := gb799) (o := .cells #[.slice Ao26 t811.length co26] 30 (0, 0)) (by (with_reducible repeat (first | refine blk_drewN ?_ _ | refine blk_drew ?_ | refine blk_alloc ?_ _)); exact BK799.out) hb); have n7_ := Aside0.mk (blk_below (g := gb804) (o := .cells #[.slice Ao32 t814.length co32] 30 (0, 0)) (by (with_reducible repeat (first | refine blk_drewN ?_ _ | refine blk_drew ?_ | refine blk_alloc ?_ _)); exact BK804.out) hb); have n8_ := Aside0.mk (blk_below (g := gb823) (o := .cells #[.slice Ao118 t819.length co118] 30 (0, 0)) (by (with_reducible repeat (first | refine blk_drewN ?_ _ | refine blk_drew ?_ | refine blk_alloc ?_ _)); exact BK823.out) hb); have n9_ := Aside0.mk (below_step (by repeat (first | (with_reducible first | exact HB.out | apply below_alloc | apply pw_below_drewN | apply below_drew1 | refine below_set ?_ GE786.out | refine below_set ?_ GE795.out | refine below_set ?_ GE799.out | refine below_set ?_ GE804.out | refine below_set ?_ GE823.out) | exact HB.out)) hb); clear HO_796000; clear HO_800000; clear HO_805000; clear HO_824000; clear BK786; clear BK795; clear BK799; clear BK804; clear BK823; clear HB; have HO_796000 := n0_; have HO_800000 := n1_; have HO_805000 := n2_; have HO_824000 := n3_; have BK786 := n4_; have BK795 := n5_; have BK799 := n6_; have BK804 := n7_; have BK823 := n8_; have HB := n9_; clear n0_ n1_ n2_ n3_ n4_ n5_ n6_ n7_ n8_ n9_; (try clear hb); (try clear hb2); (try clear hk); (try clear hi)))
                                go_ret
                                exact ⟨by first | rfl | (simp [errW_none, errW_some] <;> rfl) | (simp [*, errW_none, errW_some] <;> rfl), by repeat (first | (with_reducible first | exact HB.out | apply below_alloc | apply pw_below_drewN | apply below_drew1 | refine below_set ?_ GE786.out | refine below_set ?_ GE795.out | refine below_set ?_ GE799.out | refine below_set ?_ GE804.out | refine below_set ?_ GE823.out) | exact HB.out)⟩
                    · rw [if_neg c100] at H
                      have c100b0 : (t815 == t813) = false := beq_eq_false_iff_ne.mpr c100
                      have c100b1 : (t815 != t813) = true := bne_iff_ne.mpr c100
                      obtain rfl := Option.some.inj H
                      have hnb168 := NB804_786.out
                      have hnc168 := NB786_804.out
                      have hnb169 := NB804_795.out
                      have hnc169 := NB795_804.out
                      have hnb170 := NB804_799.out
                      have hnc170 := NB799_804.out
                      have hcz171_0 : wc.cell? ⟨gb804, 0, none⟩ = some (.slice Ao32 t800.length co32) := (blk_cell BK804.out 0).trans rfl
                      have hfz171_0 := blk_frozen BK804.out 0
                      go_wp2_with (first | ((with_reducible refine gate_callee (f := 33) rfl ?_); refine goesL_ (some 64) rfl rfl Try.func33 (by kernel_rfl) rfl #[.agg #[.slice Ao32 t800.length co32], .int .i64 1] rfl (by (try simp only [List.map_toArray, List.map_cons, List.map_nil]); first | done | rfl | (simp only [List.length_drop, List.length_take]; rfl)) ?_; (with_reducible refine (laws_markTrie.calls kj59 (fun k_ => some k_ = (.slice Ao32 t800.length co32 : Value).ownBlock) (.slice Ao32 t800.length co32) t800 1 t813 t814 w _ ?side1 ?side2 A90.out).mono ?_); (case side1 => repeat (first | (with_reducible first | exact HB.out | apply below_alloc | apply pw_below_drewN | apply below_drew1 | refine below_set ?_ GE786.out | refine below_set ?_ GE795.out | refine below_set ?_ GE799.out | refine below_set ?_ GE804.out) | exact HB.out)); (case side2 => exact Kd.R_tight rfl HO_805000.out); rintro e w172 ⟨rfl, hy0, hb, hkp⟩; refine ⟨_, rfl, ?_⟩; have n0_ := Aside0.mk (Kd.R_mono (ok' := fun k_ => some k_ ≠ (.slice Ao26 t811.length co26 : Value).ownBlock ∧ some k_ ≠ (.slice Ao32 t800.length co32 : Value).ownBlock) (Kd.R_keptB (HO_796000.out) hkp (fun k_ hk_ hs_ => (hk_.2) hs_)) (fun k_ hk_ => ⟨hk_.1.1, hk_.1.2⟩)); have n1_ := Aside0.mk (Kd.R_mono (ok' := fun k_ => some k_ ≠ (.slice Ao20 t791.length co20 : Value).ownBlock ∧ some k_ ≠ (.slice Ao32 t800.length co32 : Value).ownBlock) (Kd.R_keptB (HO_800000.out) hkp (fun k_ hk_ hs_ => (hk_.2) hs_)) (fun k_ hk_ => ⟨hk_.1.1, hk_.1.2⟩)); have n2_ := Aside0.mk (Kd.R_reok rfl hy0 (fun k_ e_ => HO_805000.out.1 k_ e_)); have n3_ := Aside0.mk (blk_kept (by (with_reducible repeat (first | refine blk_drewN ?_ _ | refine blk_drew ?_ | refine blk_alloc ?_ _)); exact BK786.out) hkp (fun hs_ => (fun e_ => (Kd.R_ne HO_805000.out BK786.out (by decide)) e_) hs_)); have n4_ := Aside0.mk (blk_kept (by (with_reducible repeat (first | refine blk_drewN ?_ _ | refine blk_drew ?_ | refine blk_alloc ?_ _)); exact BK795.out) hkp (fun hs_ => (fun e_ => (Kd.R_ne HO_805000.out BK795.out (by decide)) e_) hs_)); have n5_ := Aside0.mk (blk_kept (by (with_reducible repeat (first | refine blk_drewN ?_ _ | refine blk_drew ?_ | refine blk_alloc ?_ _)); exact BK799.out) hkp (fun hs_ => (fun e_ => (Kd.R_ne HO_805000.out BK799.out (by decide)) e_) hs_)); have n6_ := Aside0.mk (blk_kept (by (with_reducible repeat (first | refine blk_drewN ?_ _ | refine blk_drew ?_ | refine blk_alloc ?_ _)); exact BK804.out) hkp (fun hs_ => (fun e_ => (Kd.R_ne HO_805000.out BK804.out (by decide)) e_) hs_)); have n7_ := Aside0.mk (hb); clear HO_796000; clear HO_800000; clear HO_805000; clear BK786; clear BK795; clear BK799; clear BK804; clear HB; have HO_796000 := n0_; have HO_800000 := n1_; have HO_805000 := n2_; have BK786 := n3_; have BK795 := n4_; have BK799 := n5_; have BK804 := n6_; have HB := n7_; clear n0_ n1_ n2_ n3_ n4_ n5_ n6_ n7_; (try clear hb); (try clear hkp); (try clear hy0); have hcz173_0 : w172.cell? ⟨gb804, 0, none⟩ = some (.slice Ao32 t800.length co32) := (blk_cell BK804.out 0).trans rfl; have hfz173_0 := blk_frozen BK804.out 0) | ((with_reducible refine gate_callee (f := 38) rfl ?_); refine goesL_ (some 67) rfl rfl Try.func38 (by kernel_rfl) rfl #[.agg #[.slice Ao32 t814.length co32], .int .i64 1] rfl (by (try simp only [List.map_toArray, List.map_cons, List.map_nil]); first | done | (rw [show t814.length = t800.length from (Kd.R_reads' HO_805000.out).1.symm] <;> rfl) | rfl | (simp only [List.length_drop, List.length_take]; rfl)) ?_; (with_reducible refine (laws_heldTrie.calls kj59 _ _ t814 1 t815 _ ?side1 ?side2 A91.out).mono ?_); (case side1 => repeat (first | exact (Kd.R_reads' HO_805000.out).2.2 | (with_reducible refine Kd.C_alloc ?_ _) | (with_reducible refine Kd.C_drewN ?_ _) | (with_reducible refine Kd.C_drew ?_))); (case side2 => rw [show t814.length = t800.length from (Kd.R_reads' HO_805000.out).1.symm]; exact (Kd.R_reads' HO_805000.out).2.1); rintro e w174 ⟨rfl, hb⟩; refine ⟨_, rfl, ?_⟩; have n0_ := Aside0.mk (Kd.R_below (by (with_reducible repeat (first | apply Kd.R_alloc | apply Kd.R_drewN | apply Kd.R_drew)); exact HO_796000.out) hb); have n1_ := Aside0.mk (Kd.R_below (by (with_reducible repeat (first | apply Kd.R_alloc | apply Kd.R_drewN | apply Kd.R_drew)); exact HO_800000.out) hb); have n2_ := Aside0.mk (Kd.R_below (by (with_reducible repeat (first | apply Kd.R_alloc | apply Kd.R_drewN | apply Kd.R_drew)); exact HO_805000.out) hb); have n3_ := Aside0.mk (blk_below (g := gb786) (o := .cells #[.slice A0_0 l0_0.length c0_0] 24 (0, 0)) (by (with_reducible repeat (first | refine blk_drewN ?_ _ | refine blk_drew ?_ | refine blk_alloc ?_ _)); exact BK786.out) hb); have n4_ := Aside0.mk (blk_below (g := gb795) (o := .cells #[.slice Ao20 t791.length co20] 30 (0, 0)) (by (with_reducible repeat (first | refine blk_drewN ?_ _ | refine blk_drew ?_ | refine blk_alloc ?_ _)); exact BK795.out) hb); have n5_ := Aside0.mk (blk_below (g := gb799) (o := .cells #[.slice Ao26 t811.length co26] 30 (0, 0)) (by (with_reducible repeat (first | refine blk_drewN ?_ _ | refine blk_drew ?_ | refine blk_alloc ?_ _)); exact BK799.out) hb); have n6_ := Aside0.mk (blk_below (g := gb804) (o := .cells #[.slice Ao32 t800.length co32] 30 (0, 0)) (by (with_reducible repeat (first | refine blk_drewN ?_ _ | refine blk_drew ?_ | refine blk_alloc ?_ _)); exact BK804.out) hb); have n7_ := Aside0.mk (below_step (by repeat (first | (with_reducible first | exact HB.out | apply below_alloc | apply pw_below_drewN | apply below_drew1 | refine below_set ?_ GE786.out | refine below_set ?_ GE795.out | refine below_set ?_ GE799.out | refine below_set ?_ GE804.out) | exact HB.out)) hb); clear HO_796000; clear HO_800000; clear HO_805000; clear BK786; clear BK795; clear BK799; clear BK804; clear HB; have HO_796000 := n0_; have HO_800000 := n1_; have HO_805000 := n2_; have BK786 := n3_; have BK795 := n4_; have BK799 := n5_; have BK804 := n6_; have HB := n7_; clear n0_ n1_ n2_ n3_ n4_ n5_ n6_ n7_; (try clear hb); (try clear hb2); (try clear hk); (try clear hi)))
                      go_ret
                      exact ⟨by first | rfl | (simp [errW_none, errW_some] <;> rfl) | (simp [*, errW_none, errW_some] <;> rfl), by repeat (first | (with_reducible first | exact HB.out | apply below_alloc | apply pw_below_drewN | apply below_drew1 | refine below_set ?_ GE786.out | refine below_set ?_ GE795.out | refine below_set ?_ GE799.out | refine below_set ?_ GE804.out) | exact HB.out)⟩
          · replace c58 := Bool.eq_false_iff.mpr c58
            subst c58
            have H1 : (some false) = some r := by rw [if_neg (show ¬ (false = true) by decide)] at H; exact H
            clear H
            have H := H1
            clear H1
            obtain rfl := Option.some.inj H
            try go_wp2
            have n0_ := Aside0.mk (Kd.R_drew HO_796000.out)
            have n1_ := Aside0.mk (Kd.R_drew HO_800000.out)
            have n2_ := Aside0.mk (Kd.R_drew HO_805000.out)
            have n3_ := Aside0.mk (blk_drew BK786.out)
            have n4_ := Aside0.mk (blk_drew BK795.out)
            have n5_ := Aside0.mk (blk_drew BK799.out)
            have n6_ := Aside0.mk (blk_drew BK804.out)
            have n7_ := Aside0.mk (below_drew1 HB.out)
            clear HO_796000
            clear HO_800000
            clear HO_805000
            clear BK786
            clear BK795
            clear BK799
            clear BK804
            clear HB
            have HO_796000 := n0_
            have HO_800000 := n1_
            have HO_805000 := n2_
            have BK786 := n3_
            have BK795 := n4_
            have BK799 := n5_
            have BK804 := n6_
            have HB := n7_
            clear n0_ n1_ n2_ n3_ n4_ n5_ n6_ n7_
            refine start_ (n := 5) (S := fun w' => w'.cell? ⟨gb799, 0, none⟩ = some (.slice Ao26 t796.length co26) ∧ w'.cell? ⟨gb786, 0, none⟩ = some (.slice A0_0 l0_0.length c0_0)) (ds := []) #[false, false, false, false, false] (by kernel_rfl) rfl rfl ⟨(blk_cell BK799.out 0).trans rfl, (blk_cell BK786.out 0).trans rfl⟩ (fun hHeld => ?_)
            generalize wc.drew = w175 at HO_796000 HO_800000 HO_805000 BK786 BK795 BK799 BK804 HB hHeld ⊢
            refine take_ (i := 0) (N := some 41) (v := ?_) (a' := ?_) #[true, false, false, false, false] rfl rfl (by kernel_rfl) (fun _ _ _ h => h) (Or.inl ⟨by rfl, ?_⟩) hHeld ?_ ?_
            rotate_left
            · rintro w' ⟨s0, s1⟩
              go_simp
              with_reducible rfl
            rotate_left
            · simp only [Act.put, List.setIfInBounds_toArray, List.set_cons_zero, List.set_cons_succ, i64_w, i32_w]
              rfl
            refine take_ (i := 1) (N := some 42) (v := ?_) (a' := ?_) #[true, true, false, false, false] rfl rfl (by kernel_rfl) (fun _ _ _ h => h) (Or.inl ⟨by rfl, ?_⟩) hHeld ?_ ?_
            rotate_left
            · rintro w' ⟨s0, s1⟩
              go_simp
              with_reducible rfl
            rotate_left
            · simp only [Act.put, List.setIfInBounds_toArray, List.set_cons_zero, List.set_cons_succ, i64_w, i32_w]
              rfl
            refine one_ (i := 2) (N := some 43) #[true, true, true, false, false] rfl rfl (by kernel_rfl) (by decide) (fun K hK => ?_)
            refine goes_ Try.func17 (by kernel_rfl) rfl #[.agg #[.slice A0_0 l0_0.length c0_0]] (by rfl) rfl rfl (by (try simp only [List.map_toArray, List.map_cons, List.map_nil]); first | done | rfl | (simp only [List.length_drop, List.length_take]; rfl)) ?_
            with_reducible refine (laws_toTrie.calls kj10 _ _ l0_0 t806 _ ?side1 ?side2 A56.out).mono ?_
            (case side1 => repeat (first | exact (Kd.C_below HR0_0.out HB.out) | (with_reducible refine Kd.C_alloc ?_ _) | (with_reducible refine Kd.C_drewN ?_ _) | (with_reducible refine Kd.C_drew ?_)))
            (case side2 => exact HC0_0.out)
            rintro e w176 ⟨v807, rfl, ho0, hb⟩
            refine ⟨_, rfl, ?_⟩
            have n0_ := Aside0.mk (Kd.R_elder' (by (with_reducible repeat (first | apply Kd.R_alloc | apply Kd.R_drewN | apply Kd.R_drew)); exact HO_796000.out) (Kd.R_base ho0) hb)
            have n1_ := Aside0.mk (Kd.R_elder' (by (with_reducible repeat (first | apply Kd.R_alloc | apply Kd.R_drewN | apply Kd.R_drew)); exact HO_800000.out) (Kd.R_base ho0) hb)
            have n2_ := Aside0.mk (Kd.R_elder' (by (with_reducible repeat (first | apply Kd.R_alloc | apply Kd.R_drewN | apply Kd.R_drew)); exact HO_805000.out) (Kd.R_base ho0) hb)
            have n3_ := Aside0.mk (Kd.R_lower (Kd.R_new' (Kd.R_new' (Kd.R_new' ho0 (Kd.R_lt (by (with_reducible repeat (first | apply Kd.R_alloc | apply Kd.R_drewN | apply Kd.R_drew)); exact HO_796000.out))) (Kd.R_lt (by (with_reducible repeat (first | apply Kd.R_alloc | apply Kd.R_drewN | apply Kd.R_drew)); exact HO_800000.out))) (Kd.R_lt (by (with_reducible repeat (first | apply Kd.R_alloc | apply Kd.R_drewN | apply Kd.R_drew)); exact HO_805000.out))) (below_size (by repeat (first | (with_reducible first | exact HB.out | apply below_alloc | apply pw_below_drewN | apply below_drew1 | refine below_set ?_ GE786.out | refine below_set ?_ GE795.out | refine below_set ?_ GE799.out | refine below_set ?_ GE804.out) | exact HB.out))))
            have n4_ := Aside0.mk (blk_below (g := gb786) (o := .cells #[.slice A0_0 l0_0.length c0_0] 24 (0, 0)) (by (with_reducible repeat (first | refine blk_drewN ?_ _ | refine blk_drew ?_ | refine blk_alloc ?_ _)); exact BK786.out) hb)
            have n5_ := Aside0.mk (blk_below (g := gb795) (o := .cells #[.slice Ao20 t791.length co20] 30 (0, 0)) (by (with_reducible repeat (first | refine blk_drewN ?_ _ | refine blk_drew ?_ | refine blk_alloc ?_ _)); exact BK795.out) hb)
            have n6_ := Aside0.mk (blk_below (g := gb799) (o := .cells #[.slice Ao26 t796.length co26] 30 (0, 0)) (by (with_reducible repeat (first | refine blk_drewN ?_ _ | refine blk_drew ?_ | refine blk_alloc ?_ _)); exact BK799.out) hb)
            have n7_ := Aside0.mk (blk_below (g := gb804) (o := .cells #[.slice Ao32 t800.length co32] 30 (0, 0)) (by (with_reducible repeat (first | refine blk_drewN ?_ _ | refine blk_drew ?_ | refine blk_alloc ?_ _)); exact BK804.out) hb)
            have n8_ := Aside0.mk (below_step (by repeat (first | (with_reducible first | exact HB.out | apply below_alloc | apply pw_below_drewN | apply below_drew1 | refine below_set ?_ GE786.out | refine below_set ?_ GE795.out | refine below_set ?_ GE799.out | refine below_set ?_ GE804.out) | exact HB.out)) hb)
            clear HO_796000
            clear HO_800000
            clear HO_805000
            clear BK786
            clear BK795
            clear BK799
            clear BK804
            clear HB
            have HO_796000 := n0_
            have HO_800000 := n1_
            have HO_805000 := n2_
            have HO808 := n3_
            have BK786 := n4_
            have BK795 := n5_
            have BK799 := n6_
            have BK804 := n7_
            have HB := n8_
            clear n0_ n1_ n2_ n3_ n4_ n5_ n6_ n7_ n8_
            (try clear hb)
            (try clear hb2)
            (try clear hk)
            (try clear hi)
            (try clear ho0)
            obtain ⟨Ao177, co177, eo177⟩ := Kd.R_slice HO808.out
            (first | subst eo177 | (injection eo177 with f1_ f2_ f3_; have f4_ := f1_.symm; have f5_ := f3_.symm; clear f1_ f2_ f3_; subst f4_; subst f5_))
            refine hK.out _ _ ⟨(blk_cell BK799.out 0).trans rfl, (blk_cell BK786.out 0).trans rfl⟩ (fun hHeld => ?_)
            clear hK K
            refine norm_ (a' := ?_) ?_ ?_
            rotate_left
            · show Act.put _ (some 43) _ = _
              simp only [Act.put, List.setIfInBounds_toArray, List.set_cons_zero, List.set_cons_succ, i64_w, i32_w]
              rfl
            refine one_ (i := 3) (N := some 44) #[true, true, true, true, false] rfl rfl (by kernel_rfl) (by decide) (fun K hK => ?_)
            refine goes_ Try.func19 (by kernel_rfl) rfl #[.agg #[.slice Ao26 t796.length co26], .agg #[.slice Ao177 t806.length co177]] (by rfl) rfl rfl (by (try simp only [List.map_toArray, List.map_cons, List.map_nil]); first | done | rfl | (simp only [List.length_drop, List.length_take]; rfl)) ?_
            with_reducible refine (laws_eqTrie.calls kj10 _ _ t796 _ _ t806 false _ ?side1 ?side2 ?side3 ?side4 A57.out).mono ?_
            (case side1 => repeat (first | exact (Kd.R_reads' HO_800000.out).2.2 | (with_reducible refine Kd.C_alloc ?_ _) | (with_reducible refine Kd.C_drewN ?_ _) | (with_reducible refine Kd.C_drew ?_)))
            (case side2 => exact (Kd.R_reads' HO_800000.out).2.1)
            (case side3 => repeat (first | exact (Kd.R_reads' HO808.out).2.2 | (with_reducible refine Kd.C_alloc ?_ _) | (with_reducible refine Kd.C_drewN ?_ _) | (with_reducible refine Kd.C_drew ?_)))
            (case side4 => exact (Kd.R_reads' HO808.out).2.1)
            rintro e w178 ⟨rfl, hb⟩
            refine ⟨_, rfl, ?_⟩
            have n0_ := Aside0.mk (Kd.R_below (by (with_reducible repeat (first | apply Kd.R_alloc | apply Kd.R_drewN | apply Kd.R_drew)); exact HO_796000.out) hb)
            have n1_ := Aside0.mk (Kd.R_below (by (with_reducible repeat (first | apply Kd.R_alloc | apply Kd.R_drewN | apply Kd.R_drew)); exact HO_800000.out) hb)
            have n2_ := Aside0.mk (Kd.R_below (by (with_reducible repeat (first | apply Kd.R_alloc | apply Kd.R_drewN | apply Kd.R_drew)); exact HO_805000.out) hb)
            have n3_ := Aside0.mk (Kd.R_below (by (with_reducible repeat (first | apply Kd.R_alloc | apply Kd.R_drewN | apply Kd.R_drew)); exact HO808.out) hb)
            have n4_ := Aside0.mk (blk_below (g := gb786) (o := .cells #[.slice A0_0 l0_0.length c0_0] 24 (0, 0)) (by (with_reducible repeat (first | refine blk_drewN ?_ _ | refine blk_drew ?_ | refine blk_alloc ?_ _)); exact BK786.out) hb)
            have n5_ := Aside0.mk (blk_below (g := gb795) (o := .cells #[.slice Ao20 t791.length co20] 30 (0, 0)) (by (with_reducible repeat (first | refine blk_drewN ?_ _ | refine blk_drew ?_ | refine blk_alloc ?_ _)); exact BK795.out) hb)
            have n6_ := Aside0.mk (blk_below (g := gb799) (o := .cells #[.slice Ao26 t796.length co26] 30 (0, 0)) (by (with_reducible repeat (first | refine blk_drewN ?_ _ | refine blk_drew ?_ | refine blk_alloc ?_ _)); exact BK799.out) hb)
            have n7_ := Aside0.mk (blk_below (g := gb804) (o := .cells #[.slice Ao32 t800.length co32] 30 (0, 0)) (by (with_reducible repeat (first | refine blk_drewN ?_ _ | refine blk_drew ?_ | refine blk_alloc ?_ _)); exact BK804.out) hb)
            have n8_ := Aside0.mk (below_step (by repeat (first | (with_reducible first | exact HB.out | apply below_alloc | apply pw_below_drewN | apply below_drew1 | refine below_set ?_ GE786.out | refine below_set ?_ GE795.out | refine below_set ?_ GE799.out | refine below_set ?_ GE804.out) | exact HB.out)) hb)
            clear HO_796000
            clear HO_800000
            clear HO_805000
            clear HO808
            clear BK786
            clear BK795
            clear BK799
            clear BK804
            clear HB
            have HO_796000 := n0_
            have HO_800000 := n1_
            have HO_805000 := n2_
            have HO808 := n3_
            have BK786 := n4_
            have BK795 := n5_
            have BK799 := n6_
            have BK804 := n7_
            have HB := n8_
            clear n0_ n1_ n2_ n3_ n4_ n5_ n6_ n7_ n8_
            (try clear hb)
            (try clear hb2)
            (try clear hk)
            (try clear hi)
            refine hK.out _ _ ⟨(blk_cell BK799.out 0).trans rfl, (blk_cell BK786.out 0).trans rfl⟩ (fun hHeld => ?_)
            clear hK K
            refine norm_ (a' := ?_) ?_ ?_
            rotate_left
            · show Act.put _ (some 44) _ = _
              simp only [Act.put, List.setIfInBounds_toArray, List.set_cons_zero, List.set_cons_succ, i64_w, i32_w]
              rfl
            refine pure_ (i := 4) (N := some 45) (v := ?_) (a' := ?_) #[true, true, true, true, true] rfl rfl (by kernel_rfl) (fun _ _ _ h => h) (Or.inl ⟨by rfl, ?_⟩) ?_ ?_
            rotate_left
            · intro w'
              go_simp
              with_reducible rfl
            rotate_left
            · simp only [Act.put, List.setIfInBounds_toArray, List.set_cons_zero, List.set_cons_succ, i64_w, i32_w]
              rfl
            refine done_ (by kernel_rfl) ?_
            try go_wp2
            go_ret
            exact ⟨by first | rfl | (simp [errW_none, errW_some] <;> rfl) | (simp [*, errW_none, errW_some] <;> rfl), by repeat (first | (with_reducible first | exact HB.out | apply below_alloc | apply pw_below_drewN | apply below_drew1 | refine below_set ?_ GE786.out | refine below_set ?_ GE795.out | refine below_set ?_ GE799.out | refine below_set ?_ GE804.out) | exact HB.out)⟩
end Go.Proofs.Ytbedgcngoddkdaa.Q
namespace Go.Proofs.Ytbedgcngoddkdaa.Q
open Go.RowKit Go.Proofs.YtbedgcngoddkdaaW.PrintWords Go.Proofs.YtbedgcngoddkdaaW.PrintLast
theorem begW_self (x : ByteArray) : begW x x = true := by
  unfold begW
  rw [ext_all]; simp
theorem las_oth {ws : List ByteArray} (hs : SS ws) {x : ByteArray} (hx : x ∈ ws) : lasX ws x = !othX ws false x := by
  unfold lasX othX begB
  simp only [Bool.false_eq_true, if_false]
  rw [Bool.eq_iff_iff, decide_eq_true_eq, Bool.not_eq_true', List.any_eq_false]
  have hn : (ws.filter fun w => begW w x).Nodup := (hs.nodup).filter _
  have hm : x ∈ ws.filter fun w => begW w x := List.mem_filter.2 ⟨hx, begW_self x⟩
  constructor
  · intro h o ho hb
    rw [Bool.and_eq_true, decide_eq_true_eq] at hb
    have ho2 : o ∈ ws.filter fun w => begW w x := List.mem_filter.2 ⟨ho, hb.2⟩
    match hq : (ws.filter fun w => begW w x), h, hm, ho2 with
    | [y], _, hm, ho2 => exact hb.1 ((List.mem_singleton.1 ho2).trans (List.mem_singleton.1 hm).symm)
    | [], h, _, _ => simp at h
    | _ :: _ :: _, h, _, _ => simp at h; omega
  · intro h
    have hall : ∀ y ∈ ws.filter fun w => begW w x, y = x := fun y hy => by
      obtain ⟨a, b⟩ := List.mem_filter.1 hy
      by_cases e : y = x
      · exact e
      · exact absurd (show (decide (y ≠ x) && begW y x) = true by rw [decide_eq_true e, Bool.true_and]; exact b) (h y a)
    match hq : (ws.filter fun w => begW w x), hn, hm, hall with
    | [], _, hm, _ => cases hm
    | [y], _, _, _ => simp
    | a :: b :: r, hn, _, hall =>
      have h1 := hall a (List.mem_cons_self ..)
      have h2 := hall b (List.mem_cons_of_mem _ (List.mem_cons_self ..))
      rw [h1, h2] at hn
      simp at hn
theorem both_LastWords (l : List IN) : ∃ r, Ev (fun k => spec_LastWords.f k l) r ∧ Ev (fun _ => impl_LastWords.f l) r ∧ r.1.length ≤ 1048576 := by
  unfold spec_LastWords.f impl_LastWords.f
  rcases trie_cases l with hf | ⟨ws, hv, rfl, ht⟩
  · rw [hf]
    exact ⟨([], false), Ev.bind (specT l hf) (Ev.neg (by decide) (Ev.pure _)), Ev.pure _, by decide⟩
  · rw [ht, wordsV_trie hv]
    have e : (ws.filter (lasX ws)) = ws.filter fun x => !othX ws false x := List.filter_congr (fun x hx => las_oth hv.ss hx)
    refine ⟨(trieW (ws.filter (lasX ws)), true), ?_, Ev.pure _, sub_le hv _⟩
    rw [e]
    exact Ev.bind (specT _ ht) (Ev.pos rfl (Ev.bind (specWords hv) (Ev.bind (first_ev hv false) (Ev.bind (made_sub hv _) (Ev.pure _)))))
theorem pure_FnExactLastWords (l0 : List LN) (hl_l0 : l0.length ≤ maxLen) (hI_l0 : ∀ x ∈ l0, I64 x.f0 ∧ I64 x.f1) : ∃ k, laws_FnExactLastWords.f k l0 = some true := by
  refine Ev.ex ?_
  unfold laws_FnExactLastWords.f
  by_cases h_l0 : l0.length ≤ 1048576
  case neg => exact Ev.bindc (szTrie_eq l0 (by unfold maxLen at hl_l0; omega)) (by rw [if_neg h_l0]; exact Ev.pos (by decide) (Ev.pure _))
  refine Ev.bindc (szTrie_eq l0 (by unfold maxLen at hl_l0; omega)) ?_
  rw [if_pos h_l0]
  refine Ev.neg (by omega) ?_
  have ht_l0 := toTrie_ev l0 (by omega)
  have hc_l0 : (cv l0).length ≤ 1048576 := by rw [cv_length]; omega
  obtain ⟨r, e1, e2, hr⟩ := both_LastWords (cv l0)
  have hq := eqTrie_ev r.1 r.1 hr
  refine (Ev.bind ht_l0 (Ev.bind e1 (Ev.bind ht_l0 (Ev.bind e2 (Ev.bind hq (Ev.pos (by simp) (Ev.succ ?_)))))))
  simp only [laws_FnExactLastWords.j0]
  obtain ⟨m, hm⟩ := markTrie_ev (cv l0) hc_l0
  refine Ev.neg (by simp) (Ev.bind ht_l0 (Ev.bind (eqTrie_ev _ _ hc_l0) (Ev.pos (by simp) (Ev.bind hm (Ev.neg (by simp only; omega) (Ev.bind hq (Ev.pos (by simp) (Ev.succ ?_))))))))
  simp only [laws_FnExactLastWords.j1]
  obtain ⟨ms, hs1, hs2⟩ := markH_ev r.1 hr
  refine Ev.neg (by simp) (Ev.bind hs1 (Ev.bind hs2 (Ev.neg (by omega) (Ev.pos rfl (Ev.bind ht_l0 (Ev.bind e2 (Ev.bind hq (Ev.pos (by simp) (Ev.succ ?_)))))))))
  simp only [laws_FnExactLastWords.j2]
  exact Ev.neg (by simp) (Ev.bind hs2 (Ev.neg (by omega) (Ev.pos rfl (Ev.pure _))))
end Go.Proofs.Ytbedgcngoddkdaa.Q
namespace Go.Proofs.Ytbedgcngoddkdaa.Pure
theorem FnExactLastWords (l0 : List Q.LN) (hl_l0 : l0.length ≤ maxLen) (hI_l0 : ∀ x ∈ l0, Q.I64 x.f0 ∧ Q.I64 x.f1) : ∃ k, Q.laws_FnExactLastWords.f k l0 = some true := Q.pure_FnExactLastWords l0 hl_l0 hI_l0
end Go.Proofs.Ytbedgcngoddkdaa.Pure
namespace Go.Proofs.Ytbedgcngoddkdaa.fnExactLastWords
open Go.ChangeShapes Go.WideShapes Go.ChangeAt Go.RowKit
open Go.ChangeMaps (open_string shut_string)
set_option linter.unusedVariables false
theorem own : ownKnob Try.prog.godebug = none := by kernel_rfl
theorem laidOut : laidOutB Try.prog = true := by kernel_rfl
set_option maxRecDepth 100000 in
theorem lifted (os : Os) (started : os.Started) (H : Type) (enc : TypeId × Value → H) :
    ReturnsInHanded {} Try.checked os 13 .any (Rows.fnExactLastWordsSpec.pre6 enc Try.prog Try.f13 Rows.fnExactLastWordsRow.domain false) (Rows.fnExactLastWordsSpec.post enc Try.prog Try.f13 false true false false) := by
  refine returnsInHanded_of_change_sized (C := Try.checked) own started (by kernel_rfl) Try.func13
    (ChangeSpec.witness6 (enc := enc) (C := Try.checked) false ⟨#[], #[.agg #[.slice none 0 0]], []⟩ 8 (by kernel_rfl) (by kernel_rfl) (by kernel_rfl) (by kernel_rfl)) ?_
  intro W base args ds gs before hval0 hW hcnd hsz0 _
  have hsz : (DataW.weightsEach Try.prog (Try.f13.params.toList ++ Rows.fnExactLastWordsSpec.plain.varTypes Try.prog) (ds ++ gs)).all (· ≤ reachBytes) = true := hsz0
  have hval : ∀ (j : Nat) t v, Try.f13.params[j]? = some t → args[j]? = some v → Value.okWide Try.prog W .any base t v := hval0
  have hW' := hW
  obtain ⟨p, q, hA0, hV, rfl, hfz, hnd⟩ := hW
  have hA : DataW.TrodAll enc Try.prog W 0 (fun _ => true) true Try.f13.params.toList args.toList ds p := hA0
  rw [Try.params13] at hA hval hsz
  obtain ⟨v0, vs0, d0, ds0, p0, q0, hargs, rfl, rfl, h0, r0⟩ := trodAll_cons hA
  obtain ⟨rfl, rfl, rfl⟩ := trodAll_nil r0
  obtain rfl : args = #[v0] := by cases args; simp_all
  obtain ⟨rfl, rfl⟩ := trodVars_none hV
  have k0 := h0
  have lt0 : ∀ x ∈ p0, x.block < W.heap.size := by obtain ⟨m, hm⟩ := k0; exact DataW.trod_lt m _ _ _ hm
  obtain ⟨A0, c0, l0, rfl, hC0, hc0, hl0, hI0⟩ := Q.open_trie (hval 0 24 v0 rfl rfl) h0
  clear hA0 hval0 hsz0 hsz
  obtain ⟨k, hk⟩ := Pure.FnExactLastWords l0 hl0 hI0
  refine (Q.laws_FnExactLastWords.calls k A0 c0 l0 true W hC0 hc0 hk).mono fun e W' ⟨he, bel0⟩ => ?_
  have bel : Below W.heap.size W W' := bel0
  subst he
  exact ⟨_, rfl, _, _, _, [], _, [], hW', trodAll_mk1 (shut_bool Try.underlying4 _), (trodAll_cons_mk (Below.trod laidOut (by kernel_rfl) (of_decide_eq_true (by kernel_rfl)) k0 bel lt0) trodAll_mk0), rfl, bel.frame _, fun h => by cases h⟩
theorem over : Rows.fnExactLastWordsRow.holds Try.pinned (OpenSpec.ofChange Rows.fnExactLastWordsSpec) :=
  OpenClaim.holds_of_wide 13 Try.f13 rfl rfl rfl rfl rfl rfl rfl ⟨rfl, rfl, rfl, rfl, rfl⟩ rfl rfl rfl rfl rfl (by kernel_rfl) Try.func13 (by kernel_rfl)
    (of_decide_eq_true (by kernel_rfl)) (by unfold Func.isWrapper; first | (rw [if_pos (by decide +kernel)]; kernel_rfl) | (rw [if_neg (by decide +kernel)]; exact ⟨rfl, rfl⟩))
    (fun os started H enc _ => lifted os started H enc)
theorem proved : Rows.FnExactLastWordsSaid := over
end Go.Proofs.Ytbedgcngoddkdaa.fnExactLastWords
namespace Go.Proofs.Ytbedgcngoddkdaa
theorem fnExactLastWords_holds : Rows.FnExactLastWordsSaid := fnExactLastWords.proved
end Go.Proofs.Ytbedgcngoddkdaa
