/- The law FnExactFirstWords: for every input the call answers true and leaves its arguments as they were. -/
import Derived.Test.YtbedgcngoddkdaaH0
import Derived.Test.YtbedgcngoddkdaaH1
import Derived.Test.YtbedgcngoddkdaaH2
import Derived.Test.YtbedgcngoddkdaaH3
import Derived.Test.YtbedgcngoddkdaaH4
import Derived.Test.YtbedgcngoddkdaaH6
import Derived.Test.YtbedgcngoddkdaaH7
import Derived.Test.YtbedgcngoddkdaaH8
import Derived.Test.YtbedgcngoddkdaaH9
import Derived.Test.YtbedgcngoddkdaaH12
import Derived.Test.YtbedgcngoddkdaaH13
import Derived.Test.YtbedgcngoddkdaaProg
import Derived.Below
import Derived.Deep.Draws
import Derived.Deep.AppendLies
import Derived.Maps.AppendAt
import Derived.OwnWalk
import Derived.Laws.BytesArg
import Derived.Laws.MakeOwn
import Derived.Laws.OwnMore
import Derived.Deep.OwnRows
import Derived.Tactics
import Derived.Lib.ConvBytes
import Derived.Laws.Slices
import Derived.WalkKit
import Derived.KernelRfl
import Derived.RowKit3
import Derived.Deep.LoopGhost
import Derived.Deep.QuietTactic
import Derived.BigQuiet
import Derived.WideLaws
import Derived.Deep.DeepCutAuto
import Derived.Deep.CutBlock
import Derived.Deep.RegionHeld3
import Derived.Laws.Rows
import Derived.Lib.AppendStr
import Derived.ArgAppend
import Derived.Laws.IdiomCopy
import Derived.OrdersHeld
import Derived.Laws.BitsLemmas
import Derived.RowKit
import Derived.Sort.Walk0
import Derived.Lib.Strings
import Derived.Lib.SlicesCompact
import Derived.Maps.Own
import Derived.StringKeys
import Derived.Maps.OwnOps
import Derived.Maps.OwnSet
import Derived.Maps.Views
import Derived.Laws.AppendOwn
import Derived.Deep.DrawnRows
import Derived.Shelf.Sort.Plain
import Derived.Shelf.Slices.CompactS
import Derived.Shelf.Slices.In.SortNone
import Derived.RangeFuncBox
import Derived.RangeFuncLeaves
import Derived.Shelf.Abstract
import Derived.OwnWalkIn
import Derived.TacticsInMore
import Derived.LoopNIn
import Derived.LoopIn
import Derived.Lib.OwnBridge
import Derived.Sort.OwnSorted
import Derived.Sort.Grow
import Derived.Shelf.Strings.OnBuilder
import Derived.Ground.NamesProg
import Derived.Ground.SlgfProg
import Derived.Lib.SlKept
import Derived.Shelf.SlicesE.DeleteFunc
import Derived.Lib.SliceRun
import Derived.Deep.Slices
import Derived.Deep.Fields
import Derived.ChangeSame
import Derived.ChangeArms
import Derived.WideShapes
import Derived.Test.YtbedgcngoddkdaaRows
import Derived.ProofKit
import Derived.OpenShut
import Derived.ShutString
import Derived.ChangeOld
import Derived.SizedLaws
import Derived.Carry
set_option linter.unusedVariables false
set_option linter.unusedSimpArgs false
namespace Go.Proofs.Ytbedgcngoddkdaa.Q
open Go.RowKit Go.Proofs.YtbedgcngoddkdaaW.PrintWords Go.Proofs.YtbedgcngoddkdaaW.PrintLast Go.Proofs.YtbedgcngoddkdaaW.PrintMore
attribute [local go_sem] run_field_23 run_field_24 run_field_29 run_field_30 run_field_51 run_field_52 isSome_setCell max2_int min2_int max_two min_two max_three min_three max_four min_four   -- for this text's walks alone
set_option linter.unusedVariables false
set_option linter.unusedSimpArgs false
def spec_FirstWords.f (k : Nat) (l0_0 : List (S86)) : Option ((List (S86)) × Bool) := (spec_l2Trie.f k l0_0).bind fun t722 => (if t722 = true then ((spec_l2Words.f k l0_0).bind fun t723 => ((spec_l5First.f k t723 true).bind fun t726 => ((spec_l5Made.f k t726).bind fun bt729 => (some (bt729.1, bt729.2))))) else (some (([] : List (S86)), false)))
set_option maxHeartbeats 8000000 in
set_option maxRecDepth 100000 in
theorem spec_FirstWords.calls (k : Nat) (A0_0 : Option Addr) (c0_0 : Nat) (l0_0 : List (S86)) (r1 : List (S86)) (r2 : Bool) (w : World) (hr0_0 : Kd.C k86 w A0_0 l0_0.length l0_0) (hc0_0 : l0_0.length ≤ c0_0) (h : spec_FirstWords.f k l0_0 = some (r1, r2)) :
    Calls Try.prog 41 #[.agg #[.slice A0_0 l0_0.length c0_0]] w fun e w' => ∃ v0_ : Value, e = .returned (.tuple #[.agg #[v0_], .bool r2]) ∧ Kd.R k86 86 w' w.heap.size (fun _ => True) v0_ r1 ∧ Below w.heap.size w w' := by
  have hu30 := Try.underlying30
  have HR0_0 := Aside0.mk hr0_0
  have HC0_0 := Aside0.mk hc0_0
  clear hr0_0 hc0_0
  have HB := Aside0.mk (Below.refl w.heap.size w)
  have H : ((spec_l2Trie.f k l0_0).bind fun t722 => (if t722 = true then ((spec_l2Words.f k l0_0).bind fun t723 => ((spec_l5First.f k t723 true).bind fun t726 => ((spec_l5Made.f k t726).bind fun bt729 => (some (bt729.1, bt729.2))))) else (some (([] : List (S86)), false)))) = some (r1, r2) := h
  clear h
  replace H := Option.bind_eq_some_iff.mp H
  obtain ⟨t722, A20, H⟩ := H
  replace H : (if t722 = true then ((spec_l2Words.f k l0_0).bind fun t723 => ((spec_l5First.f k t723 true).bind fun t726 => ((spec_l5Made.f k t726).bind fun bt729 => (some (bt729.1, bt729.2))))) else (some (([] : List (S86)), false))) = some (r1, r2) := H
  have A2 := Aside0.mk A20
  clear A20
  by_cases c3 : t722 = true
  · subst c3
    have H1 : ((spec_l2Words.f k l0_0).bind fun t723 => ((spec_l5First.f k t723 true).bind fun t726 => ((spec_l5Made.f k t726).bind fun bt729 => (some (bt729.1, bt729.2))))) = some (r1, r2) := by rw [if_pos rfl] at H; exact H
    clear H
    have H := H1
    clear H1
    replace H := Option.bind_eq_some_iff.mp H
    obtain ⟨t723, A40, H⟩ := H
    replace H : ((spec_l5First.f k t723 true).bind fun t726 => ((spec_l5Made.f k t726).bind fun bt729 => (some (bt729.1, bt729.2)))) = some (r1, r2) := H
    have A4 := Aside0.mk A40
    clear A40
    replace H := Option.bind_eq_some_iff.mp H
    obtain ⟨t726, A50, H⟩ := H
    replace H : ((spec_l5Made.f k t726).bind fun bt729 => (some (bt729.1, bt729.2))) = some (r1, r2) := H
    have A5 := Aside0.mk A50
    clear A50
    replace H := Option.bind_eq_some_iff.mp H
    obtain ⟨⟨t729, t732⟩, A60, H⟩ := H
    replace H : (some (t729, t732)) = some (r1, r2) := H
    have A6 := Aside0.mk A60
    clear A60
    simp only [Option.some.injEq, Prod.mk.injEq] at H
    obtain ⟨rfl, rfl⟩ := H
    go_enter Try.func41, Try.ntmps41
    go_wp2_with (first | ((with_reducible refine gate_dst (N := 1) rfl ?_); refine box_event ?hg (N := 1) ?hd (cs := #[.slice A0_0 l0_0.length c0_0]) (t := 30) ?hr ?_; (case hd => rfl); (case hg => rfl); (case hr => first | (go_simp; done) | (go_simp; rfl)); intro gb720 hg w7 hbox hb; have n0_ := Aside0.mk (below_step (by repeat (first | (with_reducible first | exact HB.out | apply below_alloc | apply pw_below_drewN | apply below_drew1) | exact HB.out)) hb); have n1_ := Aside0.mk (hbox); have n2_ := Aside0.mk ((by rw [hg]; exact (below_size (by repeat (first | (with_reducible first | exact HB.out | apply below_alloc | apply pw_below_drewN | apply below_drew1) | exact HB.out))) : w.heap.size ≤ gb720)); have n3_ := Aside0.mk ((by rw [hg]; exact (below_size (by repeat (first | (with_reducible first | exact HB.out | apply below_alloc | apply pw_below_drewN | apply below_drew1) | exact HB.out))) : w.heap.size ≤ gb720)); clear HB; have HB := n0_; have BK720 := n1_; have GW720 := n2_; have GE720 := n3_; clear n0_ n1_ n2_ n3_; clear hb hbox hg) | ((with_reducible refine gate_dst (N := 2) rfl ?_); refine box_event ?hg (N := 2) ?hd (cs := #[.slice none 0 0]) (t := 30) ?hr ?_; (case hd => rfl); (case hg => rfl); (case hr => first | (go_simp; done) | (go_simp; rfl)); intro gb721 hg w8 hbox hb; have n0_ := Aside0.mk (blk_below (g := gb720) (o := .cells #[.slice A0_0 l0_0.length c0_0] 30 (0, 0)) (by (with_reducible repeat (first | refine blk_drewN ?_ _ | refine blk_drew ?_ | refine blk_alloc ?_ _)); exact BK720.out) hb); have n1_ := Aside0.mk (below_step (by repeat (first | (with_reducible first | exact HB.out | apply below_alloc | apply pw_below_drewN | apply below_drew1 | refine below_set ?_ GE720.out) | exact HB.out)) hb); have n2_ := Aside0.mk (hbox); have n3_ := Aside0.mk ((by rw [hg]; exact (below_size (by repeat (first | (with_reducible first | exact HB.out | apply below_alloc | apply pw_below_drewN | apply below_drew1 | refine below_set ?_ GE720.out) | exact HB.out))) : w.heap.size ≤ gb721)); have n4_ := Aside0.mk ((by rw [hg]; exact (below_size (by repeat (first | (with_reducible first | exact HB.out | apply below_alloc | apply pw_below_drewN | apply below_drew1 | refine below_set ?_ GE720.out) | exact HB.out))) : w.heap.size ≤ gb721)); have n5_ := Aside0.mk ((by rw [hg]; exact Nat.ne_of_lt (blk_lt (g := gb720) (o := .cells #[.slice A0_0 l0_0.length c0_0] 30 (0, 0)) (by (with_reducible repeat (first | refine blk_drewN ?_ _ | refine blk_drew ?_ | refine blk_alloc ?_ _)); exact BK720.out)) : gb720 ≠ gb721)); have n6_ := Aside0.mk ((by rw [hg]; exact Nat.ne_of_gt (blk_lt (g := gb720) (o := .cells #[.slice A0_0 l0_0.length c0_0] 30 (0, 0)) (by (with_reducible repeat (first | refine blk_drewN ?_ _ | refine blk_drew ?_ | refine blk_alloc ?_ _)); exact BK720.out)) : gb721 ≠ gb720)); clear BK720; clear HB; have BK720 := n0_; have HB := n1_; have BK721 := n2_; have GW721 := n3_; have GE721 := n4_; have NB720_721 := n5_; have NB721_720 := n6_; clear n0_ n1_ n2_ n3_ n4_ n5_ n6_; clear hb hbox hg; have hnb9 := NB720_721.out; have hnc9 := NB721_720.out; have hcz10_0 : w8.cell? ⟨gb720, 0, none⟩ = some (.slice A0_0 l0_0.length c0_0) := (blk_cell BK720.out 0).trans rfl; have hfz10_0 := blk_frozen BK720.out 0) | ((with_reducible refine gate_callee (f := 51) rfl ?_); refine goesL_ (some 5) rfl rfl Try.func51 (by kernel_rfl) rfl #[.agg #[.slice A0_0 l0_0.length c0_0]] rfl (by (try simp only [List.map_toArray, List.map_cons, List.map_nil]); first | done | rfl | (simp only [List.length_drop, List.length_take]; rfl)) ?_; (with_reducible refine (spec_l2Trie.calls k _ _ l0_0 true _ ?side1 ?side2 A2.out).mono ?_); (case side1 => repeat (first | exact (Kd.C_below HR0_0.out HB.out) | (with_reducible refine Kd.C_alloc ?_ _) | (with_reducible refine Kd.C_drewN ?_ _) | (with_reducible refine Kd.C_drew ?_))); (case side2 => exact HC0_0.out); rintro e w11 ⟨rfl, hb⟩; refine ⟨_, rfl, ?_⟩; have n0_ := Aside0.mk (blk_below (g := gb720) (o := .cells #[.slice A0_0 l0_0.length c0_0] 30 (0, 0)) (by (with_reducible repeat (first | refine blk_drewN ?_ _ | refine blk_drew ?_ | refine blk_alloc ?_ _)); exact BK720.out) hb); have n1_ := Aside0.mk (blk_below (g := gb721) (o := .cells #[.slice none 0 0] 30 (0, 0)) (by (with_reducible repeat (first | refine blk_drewN ?_ _ | refine blk_drew ?_ | refine blk_alloc ?_ _)); exact BK721.out) hb); have n2_ := Aside0.mk (below_step (by repeat (first | (with_reducible first | exact HB.out | apply below_alloc | apply pw_below_drewN | apply below_drew1 | refine below_set ?_ GE720.out | refine below_set ?_ GE721.out) | exact HB.out)) hb); clear BK720; clear BK721; clear HB; have BK720 := n0_; have BK721 := n1_; have HB := n2_; clear n0_ n1_ n2_; (try clear hb); (try clear hb2); (try clear hk); (try clear hi); have hcz12_0 : w11.cell? ⟨gb720, 0, none⟩ = some (.slice A0_0 l0_0.length c0_0) := (blk_cell BK720.out 0).trans rfl; have hfz12_0 := blk_frozen BK720.out 0) | ((with_reducible refine gate_callee (f := 53) rfl ?_); refine goesL_ (some 9) rfl rfl Try.func53 (by kernel_rfl) rfl #[.agg #[.slice A0_0 l0_0.length c0_0]] rfl (by (try simp only [List.map_toArray, List.map_cons, List.map_nil]); first | done | rfl | (simp only [List.length_drop, List.length_take]; rfl)) ?_; (with_reducible refine (spec_l2Words.calls k _ _ l0_0 t723 _ ?side1 ?side2 A4.out).mono ?_); (case side1 => repeat (first | exact (Kd.C_below HR0_0.out HB.out) | (with_reducible refine Kd.C_alloc ?_ _) | (with_reducible refine Kd.C_drewN ?_ _) | (with_reducible refine Kd.C_drew ?_))); (case side2 => exact HC0_0.out); rintro e w13 ⟨v724, rfl, ho0, hb⟩; refine ⟨_, rfl, ?_⟩; have n0_ := Aside0.mk (Kd.R_lower ho0 (below_size (by repeat (first | (with_reducible first | exact HB.out | apply below_alloc | apply pw_below_drewN | apply below_drew1 | refine below_set ?_ GE720.out | refine below_set ?_ GE721.out) | exact HB.out)))); have n1_ := Aside0.mk (blk_below (g := gb720) (o := .cells #[.slice A0_0 l0_0.length c0_0] 30 (0, 0)) (by (with_reducible repeat (first | refine blk_drewN ?_ _ | refine blk_drew ?_ | refine blk_alloc ?_ _)); exact BK720.out) hb); have n2_ := Aside0.mk (blk_below (g := gb721) (o := .cells #[.slice none 0 0] 30 (0, 0)) (by (with_reducible repeat (first | refine blk_drewN ?_ _ | refine blk_drew ?_ | refine blk_alloc ?_ _)); exact BK721.out) hb); have n3_ := Aside0.mk (below_step (by repeat (first | (with_reducible first | exact HB.out | apply below_alloc | apply pw_below_drewN | apply below_drew1 | refine below_set ?_ GE720.out | refine below_set ?_ GE721.out) | exact HB.out)) hb); clear BK720; clear BK721; clear HB; have HO725 := n0_; have BK720 := n1_; have BK721 := n2_; have HB := n3_; clear n0_ n1_ n2_ n3_; (try clear hb); (try clear hb2); (try clear hk); (try clear hi); (try clear ho0); obtain ⟨Ao14, co14, eo14⟩ := Kd.R_slice HO725.out; subst eo14) | ((with_reducible refine gate_callee (f := 66) rfl ?_); refine goesL_ (some 10) rfl rfl Try.func66 (by kernel_rfl) rfl #[.slice Ao14 t723.length co14, .bool true] rfl (by (try simp only [List.map_toArray, List.map_cons, List.map_nil]); first | done | rfl | (simp only [List.length_drop, List.length_take]; rfl)) ?_; (with_reducible refine (spec_l5First.calls k _ _ t723 true t726 _ ?side1 ?side2 A5.out).mono ?_); (case side1 => repeat (first | exact (Kd.R_reads' HO725.out).2.2 | (with_reducible refine Kd.C_alloc ?_ _) | (with_reducible refine Kd.C_drewN ?_ _) | (with_reducible refine Kd.C_drew ?_))); (case side2 => exact (Kd.R_reads' HO725.out).2.1); rintro e w15 ⟨v727, rfl, ho0, hb⟩; refine ⟨_, rfl, ?_⟩; have n0_ := Aside0.mk (Kd.R_elder' (by (with_reducible repeat (first | apply Kd.R_alloc | apply Kd.R_drewN | apply Kd.R_drew)); exact HO725.out) (Kd.R_base ho0) hb); have n1_ := Aside0.mk (Kd.R_lower (Kd.R_new' ho0 (Kd.R_lt (by (with_reducible repeat (first | apply Kd.R_alloc | apply Kd.R_drewN | apply Kd.R_drew)); exact HO725.out))) (below_size (by repeat (first | (with_reducible first | exact HB.out | apply below_alloc | apply pw_below_drewN | apply below_drew1 | refine below_set ?_ GE720.out | refine below_set ?_ GE721.out) | exact HB.out)))); have n2_ := Aside0.mk (blk_below (g := gb720) (o := .cells #[.slice A0_0 l0_0.length c0_0] 30 (0, 0)) (by (with_reducible repeat (first | refine blk_drewN ?_ _ | refine blk_drew ?_ | refine blk_alloc ?_ _)); exact BK720.out) hb); have n3_ := Aside0.mk (blk_below (g := gb721) (o := .cells #[.slice none 0 0] 30 (0, 0)) (by (with_reducible repeat (first | refine blk_drewN ?_ _ | refine blk_drew ?_ | refine blk_alloc ?_ _)); exact BK721.out) hb); have n4_ := Aside0.mk (below_step (by repeat (first | (with_reducible first | exact HB.out | apply below_alloc | apply pw_below_drewN | apply below_drew1 | refine below_set ?_ GE720.out | refine below_set ?_ GE721.out) | exact HB.out)) hb); clear HO725; clear BK720; clear BK721; clear HB; have HO725 := n0_; have HO728 := n1_; have BK720 := n2_; have BK721 := n3_; have HB := n4_; clear n0_ n1_ n2_ n3_ n4_; (try clear hb); (try clear hb2); (try clear hk); (try clear hi); (try clear ho0); obtain ⟨Ao16, co16, eo16⟩ := Kd.R_slice HO728.out; subst eo16) | ((with_reducible refine gate_callee (f := 71) rfl ?_); refine goesL_ (some 11) rfl rfl Try.func71 (by kernel_rfl) rfl #[.slice Ao16 t726.length co16] rfl (by (try simp only [List.map_toArray, List.map_cons, List.map_nil]); first | done | rfl | (simp only [List.length_drop, List.length_take]; rfl)) ?_; (with_reducible refine (spec_l5Made.calls k _ _ t726 t729 t732 _ ?side1 ?side2 A6.out).mono ?_); (case side1 => repeat (first | exact (Kd.R_reads' HO728.out).2.2 | (with_reducible refine Kd.C_alloc ?_ _) | (with_reducible refine Kd.C_drewN ?_ _) | (with_reducible refine Kd.C_drew ?_))); (case side2 => exact (Kd.R_reads' HO728.out).2.1); rintro e w17 ⟨v730, rfl, ho0, hb⟩; refine ⟨_, rfl, ?_⟩; have n0_ := Aside0.mk (Kd.R_below (by (with_reducible repeat (first | apply Kd.R_alloc | apply Kd.R_drewN | apply Kd.R_drew)); exact HO725.out) hb); have n1_ := Aside0.mk (Kd.R_below (by (with_reducible repeat (first | apply Kd.R_alloc | apply Kd.R_drewN | apply Kd.R_drew)); exact HO728.out) hb); have n2_ := Aside0.mk (Kd.R_lower ho0 (below_size (by repeat (first | (with_reducible first | exact HB.out | apply below_alloc | apply pw_below_drewN | apply below_drew1 | refine below_set ?_ GE720.out | refine below_set ?_ GE721.out) | exact HB.out)))); have n3_ := Aside0.mk (blk_below (g := gb720) (o := .cells #[.slice A0_0 l0_0.length c0_0] 30 (0, 0)) (by (with_reducible repeat (first | refine blk_drewN ?_ _ | refine blk_drew ?_ | refine blk_alloc ?_ _)); exact BK720.out) hb); have n4_ := Aside0.mk (blk_below (g := gb721) (o := .cells #[.slice none 0 0] 30 (0, 0)) (by (with_reducible repeat (first | refine blk_drewN ?_ _ | refine blk_drew ?_ | refine blk_alloc ?_ _)); exact BK721.out) hb); have n5_ := Aside0.mk (below_step (by repeat (first | (with_reducible first | exact HB.out | apply below_alloc | apply pw_below_drewN | apply below_drew1 | refine below_set ?_ GE720.out | refine below_set ?_ GE721.out) | exact HB.out)) hb); clear HO725; clear HO728; clear BK720; clear BK721; clear HB; have HO725 := n0_; have HO728 := n1_; have HO731 := n2_; have BK720 := n3_; have BK721 := n4_; have HB := n5_; clear n0_ n1_ n2_ n3_ n4_ n5_; (try clear hb); (try clear hb2); (try clear hk); (try clear hi); (try clear ho0); obtain ⟨Ao18, co18, eo18⟩ := Kd.R_slice HO731.out; subst eo18; have hcz19_0 : w17.cell? ⟨gb721, 0, none⟩ = some (.slice none 0 0) := (blk_cell BK721.out 0).trans rfl; have hfz19_0 := blk_frozen BK721.out 0))
    refine bodyPost_ret (results_ct rfl _ _ gb721 30 #[.slice Ao18 t729.length co18] (0, 0) _ rfl (by (with_reducible repeat (first | refine blk_drewN ?_ _ | refine blk_drew ?_ | refine blk_alloc ?_ _)); refine blk_put (cs := #[.slice none 0 0]) ?_ 0 _ rfl; (with_reducible repeat (first | refine blk_drewN ?_ _ | refine blk_drew ?_ | refine blk_alloc ?_ _)); exact BK721.out) Try.underlying30 rfl (by kernel_rfl)) rfl ?_
    exact ⟨_, by first | rfl | (simp [errW_none, errW_some] <;> rfl) | (simp [*, errW_none, errW_some] <;> rfl), by (with_reducible repeat (first | apply Kd.R_alloc | apply Kd.R_drewN | apply Kd.R_drew)); exact Kd.R_mono (R_same_ (Kd.R_far (p := ⟨gb721, 0, none⟩) (Kd.R_types HO731.out BK721.out (by decide)) (fun _ hk => hk.2) (.slice Ao18 t729.length co18)) rfl) (fun _ hk => trivial), by repeat (first | (with_reducible first | exact HB.out | apply below_alloc | apply pw_below_drewN | apply below_drew1 | refine below_set ?_ GE720.out | refine below_set ?_ GE721.out) | exact HB.out)⟩
  · replace c3 := Bool.eq_false_iff.mpr c3
    subst c3
    have H1 : (some (([] : List (S86)), false)) = some (r1, r2) := by rw [if_neg (show ¬ (false = true) by decide)] at H; exact H
    clear H
    have H := H1
    clear H1
    simp only [Option.some.injEq, Prod.mk.injEq] at H
    obtain ⟨rfl, rfl⟩ := H
    go_enter Try.func41, Try.ntmps41
    go_wp2_with (first | ((with_reducible refine gate_dst (N := 1) rfl ?_); refine box_event ?hg (N := 1) ?hd (cs := #[.slice A0_0 l0_0.length c0_0]) (t := 30) ?hr ?_; (case hd => rfl); (case hg => rfl); (case hr => first | (go_simp; done) | (go_simp; rfl)); intro gb720 hg w20 hbox hb; have n0_ := Aside0.mk (below_step (by repeat (first | (with_reducible first | exact HB.out | apply below_alloc | apply pw_below_drewN | apply below_drew1) | exact HB.out)) hb); have n1_ := Aside0.mk (hbox); have n2_ := Aside0.mk ((by rw [hg]; exact (below_size (by repeat (first | (with_reducible first | exact HB.out | apply below_alloc | apply pw_below_drewN | apply below_drew1) | exact HB.out))) : w.heap.size ≤ gb720)); have n3_ := Aside0.mk ((by rw [hg]; exact (below_size (by repeat (first | (with_reducible first | exact HB.out | apply below_alloc | apply pw_below_drewN | apply below_drew1) | exact HB.out))) : w.heap.size ≤ gb720)); clear HB; have HB := n0_; have BK720 := n1_; have GW720 := n2_; have GE720 := n3_; clear n0_ n1_ n2_ n3_; clear hb hbox hg) | ((with_reducible refine gate_dst (N := 2) rfl ?_); refine box_event ?hg (N := 2) ?hd (cs := #[.slice none 0 0]) (t := 30) ?hr ?_; (case hd => rfl); (case hg => rfl); (case hr => first | (go_simp; done) | (go_simp; rfl)); intro gb721 hg w21 hbox hb; have n0_ := Aside0.mk (blk_below (g := gb720) (o := .cells #[.slice A0_0 l0_0.length c0_0] 30 (0, 0)) (by (with_reducible repeat (first | refine blk_drewN ?_ _ | refine blk_drew ?_ | refine blk_alloc ?_ _)); exact BK720.out) hb); have n1_ := Aside0.mk (below_step (by repeat (first | (with_reducible first | exact HB.out | apply below_alloc | apply pw_below_drewN | apply below_drew1 | refine below_set ?_ GE720.out) | exact HB.out)) hb); have n2_ := Aside0.mk (hbox); have n3_ := Aside0.mk ((by rw [hg]; exact (below_size (by repeat (first | (with_reducible first | exact HB.out | apply below_alloc | apply pw_below_drewN | apply below_drew1 | refine below_set ?_ GE720.out) | exact HB.out))) : w.heap.size ≤ gb721)); have n4_ := Aside0.mk ((by rw [hg]; exact (below_size (by repeat (first | (with_reducible first | exact HB.out | apply below_alloc | apply pw_below_drewN | apply below_drew1 | refine below_set ?_ GE720.out) | exact HB.out))) : w.heap.size ≤ gb721)); have n5_ := Aside0.mk ((by rw [hg]; exact Nat.ne_of_lt (blk_lt (g := gb720) (o := .cells #[.slice A0_0 l0_0.length c0_0] 30 (0, 0)) (by (with_reducible repeat (first | refine blk_drewN ?_ _ | refine blk_drew ?_ | refine blk_alloc ?_ _)); exact BK720.out)) : gb720 ≠ gb721)); have n6_ := Aside0.mk ((by rw [hg]; exact Nat.ne_of_gt (blk_lt (g := gb720) (o := .cells #[.slice A0_0 l0_0.length c0_0] 30 (0, 0)) (by (with_reducible repeat (first | refine blk_drewN ?_ _ | refine blk_drew ?_ | refine blk_alloc ?_ _)); exact BK720.out)) : gb721 ≠ gb720)); clear BK720; clear HB; have BK720 := n0_; have HB := n1_; have BK721 := n2_; have GW721 := n3_; have GE721 := n4_; have NB720_721 := n5_; have NB721_720 := n6_; clear n0_ n1_ n2_ n3_ n4_ n5_ n6_; clear hb hbox hg; have hnb22 := NB720_721.out; have hnc22 := NB721_720.out; have hcz23_0 : w21.cell? ⟨gb720, 0, none⟩ = some (.slice A0_0 l0_0.length c0_0) := (blk_cell BK720.out 0).trans rfl; have hfz23_0 := blk_frozen BK720.out 0) | ((with_reducible refine gate_callee (f := 51) rfl ?_); refine goesL_ (some 5) rfl rfl Try.func51 (by kernel_rfl) rfl #[.agg #[.slice A0_0 l0_0.length c0_0]] rfl (by (try simp only [List.map_toArray, List.map_cons, List.map_nil]); first | done | rfl | (simp only [List.length_drop, List.length_take]; rfl)) ?_; (with_reducible refine (spec_l2Trie.calls k _ _ l0_0 false _ ?side1 ?side2 A2.out).mono ?_); (case side1 => repeat (first | exact (Kd.C_below HR0_0.out HB.out) | (with_reducible refine Kd.C_alloc ?_ _) | (with_reducible refine Kd.C_drewN ?_ _) | (with_reducible refine Kd.C_drew ?_))); (case side2 => exact HC0_0.out); rintro e w24 ⟨rfl, hb⟩; refine ⟨_, rfl, ?_⟩; have n0_ := Aside0.mk (blk_below (g := gb720) (o := .cells #[.slice A0_0 l0_0.length c0_0] 30 (0, 0)) (by (with_reducible repeat (first | refine blk_drewN ?_ _ | refine blk_drew ?_ | refine blk_alloc ?_ _)); exact BK720.out) hb); have n1_ := Aside0.mk (blk_below (g := gb721) (o := .cells #[.slice none 0 0] 30 (0, 0)) (by (with_reducible repeat (first | refine blk_drewN ?_ _ | refine blk_drew ?_ | refine blk_alloc ?_ _)); exact BK721.out) hb); have n2_ := Aside0.mk (below_step (by repeat (first | (with_reducible first | exact HB.out | apply below_alloc | apply pw_below_drewN | apply below_drew1 | refine below_set ?_ GE720.out | refine below_set ?_ GE721.out) | exact HB.out)) hb); clear BK720; clear BK721; clear HB; have BK720 := n0_; have BK721 := n1_; have HB := n2_; clear n0_ n1_ n2_; (try clear hb); (try clear hb2); (try clear hk); (try clear hi); have hcz25_0 : w24.cell? ⟨gb721, 0, none⟩ = some (.slice none 0 0) := (blk_cell BK721.out 0).trans rfl; have hfz25_0 := blk_frozen BK721.out 0))
    refine bodyPost_ret (results_ct rfl _ _ gb721 30 #[.slice none 0 0] (0, 0) _ rfl (by (with_reducible repeat (first | refine blk_drewN ?_ _ | refine blk_drew ?_ | refine blk_alloc ?_ _)); refine blk_put (cs := #[.slice none 0 0]) ?_ 0 _ rfl; (with_reducible repeat (first | refine blk_drewN ?_ _ | refine blk_drew ?_ | refine blk_alloc ?_ _)); exact BK721.out) Try.underlying30 rfl (by kernel_rfl)) rfl ?_
    exact ⟨_, by first | rfl | (simp [errW_none, errW_some] <;> rfl) | (simp [*, errW_none, errW_some] <;> rfl), by first | exact Kd.R_nil _ _ _ _ _ | exact Kd.N_nil _ _ _ _ _ | exact Kd.V_nil _ _ _ _ _ | exact Kd.Q_nil _ _ _ _ _ | exact Kd.S_nil _ _ _ _ _, by repeat (first | (with_reducible first | exact HB.out | apply below_alloc | apply pw_below_drewN | apply below_drew1 | refine below_set ?_ GE720.out | refine below_set ?_ GE721.out) | exact HB.out)⟩
end Go.Proofs.Ytbedgcngoddkdaa.Q
namespace Go.Proofs.Ytbedgcngoddkdaa.Q
open Go.RowKit Go.Sort Go.Shelf Go.Proofs.YtbedgcngoddkdaaW.PrintWords Go.Proofs.YtbedgcngoddkdaaW.PrintLast Go.Proofs.YtbedgcngoddkdaaW.PrintMore
set_option linter.unusedVariables false
def firX (wa : List ByteArray) (x : ByteArray) : Bool := !begX wa x
set_option maxHeartbeats 1000000 in
theorem first1_tells {wa : List ByteArray} (hv : VW wa) (A : Option Addr) (c B base : Nat) (w : World) (hc : (trieW wa).length ≤ c) (hB : B < base) (hbox : w.heap[B]? = some (.cells #[.slice A (trieW wa).length c] 30 (0, 0))) (hC : ∀ W, Below base w W → Kd.C k86 W A (trieW wa).length (trieW wa)) :
    Tells 75 #[] #[.pointer (some ⟨B, 0, none⟩)] (firX wa) base w := by
  intro x W hW
  have hcell : W.cell? ⟨B, 0, none⟩ = some (.slice A (trieW wa).length c) := box_at ((hW.block B hB).trans hbox)
  have HH := Aside0.mk (begins_tells hv A c base w hc hC x W hW)
  clear hbox hC hW
  show Calls Try.prog 75 #[.string x, .pointer (some ⟨B, 0, none⟩)] W _
  go_enter Try.func75, Try.ntmps75
  go_wp2_with (go_at_call 67; refine HH.out.mono ?_; rintro e w' ⟨rfl, hb⟩; have HB := Aside0.mk hb; clear hb)
  go_ret
  exact ⟨rfl, HB.out⟩
theorem impl_FirstWords_enters1 : Enters 75 := enters_of Try.func75 (by kernel_rfl) rfl
def impl_FirstWords.f (l0_0 : List IN) : Option (List IN × Bool) := some (if isTrieW l0_0 then (trieW ((wordsV l0_0).filter (firX (wordsV l0_0))), true) else ([], false))
set_option maxHeartbeats 2000000 in
theorem impl_FirstWords.calls (A0_0 : Option Addr) (c0_0 : Nat) (l0_0 : List IN) (r1 : List IN) (r2 : Bool) (w : World) (hr0_0 : Kd.C k86 w A0_0 l0_0.length l0_0) (hc0_0 : l0_0.length ≤ c0_0) (h : impl_FirstWords.f l0_0 = some (r1, r2)) :
    Calls Try.prog 42 #[.agg #[.slice A0_0 l0_0.length c0_0]] w fun e w' => ∃ v0_ : Value, e = .returned (.tuple #[.agg #[v0_], .bool r2]) ∧ Kd.R k86 86 w' w.heap.size (fun _ => True) v0_ r1 ∧ Below w.heap.size w w' := by
  unfold impl_FirstWords.f at h
  have HB0 := Aside0.mk (((Below.refl w.heap.size w).alloc (Nat.le_refl _) (.cells #[.slice A0_0 l0_0.length c0_0] 30)).alloc (by simp) (.cells #[.slice none 0 0] 30))
  have HX := Aside0.mk (box_two w (.slice A0_0 l0_0.length c0_0) (.slice none 0 0) 30 30)
  have HR0 := Aside0.mk hr0_0
  have HC0 := Aside0.mk hc0_0
  obtain ⟨k0, hk0⟩ := (isTrie_ev l0_0).ex
  have HK0 := Aside0.mk hk0
  clear hr0_0 hc0_0 hk0
  rcases trie_split l0_0 with ht0 | ⟨wa, hva, rfl, ht0, hwa⟩
  · rw [ht0] at h HK0
    injection h with h
    injection h with h1 h2
    subst h1; subst h2
    clear ht0
    go_enter Try.func42, Try.ntmps42
    go_wp2_with (go_at_call 55; refine (impl_isTrie.calls k0 A0_0 c0_0 l0_0 false _ (Kd.C_below HR0.out HB0.out) HC0.out HK0.out).mono ?_; rintro e w1 ⟨rfl, hb⟩; have HQ1 := Aside0.mk (show Below (w.heap.size + 1 + 1) _ w1 by simpa using hb); have hx := (HX.out w1 HQ1.out).2; have hxc := box_at hx; have hxf := box_frozen hx; have HXX := Aside0.mk hx; clear hb hx)
    have hfin := blk_put HXX.out 0 (.slice none 0 0) rfl
    refine bodyPost_ret (results_ct rfl _ _ (w.heap.size + 1) 30 #[.slice none 0 0] (0, 0) _ rfl hfin Try.underlying30 rfl (by kernel_rfl)) rfl ?_
    exact ⟨_, rfl, Kd.R_nil _ _ _ _ _, (HB0.out.trans (HQ1.out.mono (by omega))).setCell (by simp) _⟩
  · rw [ht0, hwa] at h
    rw [ht0] at HK0
    injection h with h
    injection h with h1 h2
    subst h1; subst h2
    have HVA := Aside0.mk hva
    clear ht0 hwa hva
    go_enter Try.func42, Try.ntmps42
    go_wp2_with (first
      | (go_at_call 55; refine (impl_isTrie.calls k0 A0_0 c0_0 _ true _ (Kd.C_below HR0.out HB0.out) HC0.out HK0.out).mono ?_; rintro e w1 ⟨rfl, hb⟩; have HQ1 := Aside0.mk (show Below (w.heap.size + 1 + 1) _ w1 by simpa using hb); have hx1 := box_at (HX.out w1 HQ1.out).1; clear hb)
      | (go_at_call 72; refine (chosen_gen 75 #[] #[.pointer (some ⟨w.heap.size, 0, none⟩)] (firX wa) impl_FirstWords_enters1 HVA.out A0_0 c0_0 w1 (Kd.C_below HR0.out (HB0.out.trans (HQ1.out.mono (by omega)))) HC0.out (first1_tells HVA.out A0_0 c0_0 w.heap.size w1.heap.size w1 HC0.out (by have := bsz2 HQ1.out; omega) (HX.out w1 HQ1.out).1 (fun W hW => Kd.C_below HR0.out (HB0.out.trans ((HQ1.out.mono (by omega)).trans (hW.mono (by have := bsz2 HQ1.out; omega))))))).mono ?_; rintro e w2 ⟨v2, rfl, hr, hb⟩; obtain ⟨A2, c2, rfl⟩ := Kd.R_slice hr; have HQ2 := Aside0.mk (HQ1.out.trans (hb.mono (bsz2 HQ1.out))); have hx := (HX.out w2 HQ2.out).2; have hxc := box_at hx; have hxf := box_frozen hx; have HXX := Aside0.mk hx; have HR2 := Aside0.mk (Kd.R_lower hr (bsz2 HQ1.out)); clear hr hb hx))
    have hfin := blk_put HXX.out 0 (.slice A2 (trieW (wa.filter (firX wa))).length c2) rfl
    refine bodyPost_ret (results_ct rfl _ _ (w.heap.size + 1) 30 #[.slice A2 (trieW (wa.filter (firX wa))).length c2] (0, 0) _ rfl hfin Try.underlying30 rfl (by kernel_rfl)) rfl ?_
    exact ⟨_, rfl, Kd.R_lower (Kd.R_mono (Kd.R_move (Kd.R_bound HR2.out) (fun g hg => Below.heap_setCell _ _ _ _ (by have := hg.2.1; simp; omega))) (fun _ hg => trivial)) (by omega), (HB0.out.trans (HQ2.out.mono (by omega))).setCell (by simp) _⟩
end Go.Proofs.Ytbedgcngoddkdaa.Q
namespace Go.Proofs.Ytbedgcngoddkdaa.Q
open Go.RowKit Go.Proofs.YtbedgcngoddkdaaW.PrintWords Go.Proofs.YtbedgcngoddkdaaW.PrintLast Go.Proofs.YtbedgcngoddkdaaW.PrintMore
attribute [local go_sem] run_field_23 run_field_24 run_field_29 run_field_30 run_field_51 run_field_52 isSome_setCell max2_int min2_int max_two min_two max_three min_three max_four min_four   -- for this text's walks alone
set_option linter.unusedVariables false
set_option linter.unusedSimpArgs false
mutual
def laws_FnExactFirstWords.j0 : Nat → Bool → Bool → Bool → List (S89) → List (S86) → List (S86) → List (S86) → Option (Bool)
  | 0, _, _, _, _, _, _, _ => none
  | k + 1, x5, x8, x40, x734000, x743000, x747000, x752000 => if x40 = true then (some false) else ((laws_toTrie.f k x734000).bind fun t753 => ((laws_eqTrie.f k x747000 t753).bind fun t756 => (if t756 = true then ((laws_markTrie.f k x747000 1).bind fun bt757 => (if bt757.1 < 0 then (laws_FnExactFirstWords.j1 k x5 true x734000 x743000 x752000) else ((laws_eqTrie.f k x752000 x743000).bind fun t759 => (if t759 = true then (laws_FnExactFirstWords.j1 k x5 (x8 != x5) x734000 x743000 x752000) else (laws_FnExactFirstWords.j1 k x5 true x734000 x743000 x752000))))) else (some false))))
def laws_FnExactFirstWords.j1 : Nat → Bool → Bool → List (S89) → List (S86) → List (S86) → Option (Bool)
  | 0, _, _, _, _, _ => none
  | k + 1, x5, x61, x734000, x743000, x752000 => if x61 = true then (some false) else ((laws_markTrie.f k x752000 1).bind fun bt760 => ((laws_heldTrie.f k bt760.2 1).bind fun t762 => (if t762 < 0 then (some false) else (if t762 = bt760.1 then ((laws_toTrie.f k x734000).bind fun t763 => ((impl_FirstWords.f t763).bind fun bt766 => ((laws_eqTrie.f k bt766.1 x743000).bind fun t771 => (if t771 = true then (laws_FnExactFirstWords.j2 k bt760.1 (bt766.2 != x5) bt760.2) else (laws_FnExactFirstWords.j2 k bt760.1 true bt760.2))))) else (some false)))))
def laws_FnExactFirstWords.j2 : Nat → Int → Bool → List (S86) → Option (Bool)
  | 0, _, _, _ => none
  | k + 1, x10, x87, x752000 => if x87 = true then (some false) else ((laws_heldTrie.f k x752000 1).bind fun t772 => (if t772 < 0 then (some false) else (if t772 = x10 then (some true) else (some false))))
end
def laws_FnExactFirstWords.f (k : Nat) (l0_0 : List (S89)) : Option (Bool) := (laws_szTrie.f l0_0 1048576).bind fun t734 => (if t734 < 0 then (some true) else ((laws_toTrie.f k l0_0).bind fun t735 => ((spec_FirstWords.f k t735).bind fun bt738 => ((laws_toTrie.f k l0_0).bind fun t743 => ((impl_FirstWords.f t743).bind fun bt747 => ((laws_eqTrie.f k bt747.1 bt738.1).bind fun t752 => (if t752 = true then (laws_FnExactFirstWords.j0 k bt738.2 bt747.2 (bt747.2 != bt738.2) l0_0 bt738.1 t743 bt747.1) else (laws_FnExactFirstWords.j0 k bt738.2 bt747.2 true l0_0 bt738.1 t743 bt747.1))))))))
set_option maxHeartbeats 8000000 in
set_option maxRecDepth 100000 in
theorem laws_FnExactFirstWords.calls (k : Nat) (A0_0 : Option Addr) (c0_0 : Nat) (l0_0 : List (S89)) (r : Bool) (w : World) (hr0_0 : Kd.C k89 w A0_0 l0_0.length l0_0) (hc0_0 : l0_0.length ≤ c0_0) (h : laws_FnExactFirstWords.f k l0_0 = some r) :
    Calls Try.prog 12 #[.agg #[.slice A0_0 l0_0.length c0_0]] w fun e w' => e = .returned (.bool r) ∧ Below w.heap.size w w' := by
  have hu24 := Try.underlying24
  have hu30 := Try.underlying30
  have HR0_0 := Aside0.mk hr0_0
  have HC0_0 := Aside0.mk hc0_0
  clear hr0_0 hc0_0
  have HB := Aside0.mk (Below.refl w.heap.size w)
  have H : ((laws_szTrie.f l0_0 1048576).bind fun t734 => (if t734 < 0 then (some true) else ((laws_toTrie.f k l0_0).bind fun t735 => ((spec_FirstWords.f k t735).bind fun bt738 => ((laws_toTrie.f k l0_0).bind fun t743 => ((impl_FirstWords.f t743).bind fun bt747 => ((laws_eqTrie.f k bt747.1 bt738.1).bind fun t752 => (if t752 = true then (laws_FnExactFirstWords.j0 k bt738.2 bt747.2 (bt747.2 != bt738.2) l0_0 bt738.1 t743 bt747.1) else (laws_FnExactFirstWords.j0 k bt738.2 bt747.2 true l0_0 bt738.1 t743 bt747.1))))))))) = some r := h
  clear h
  replace H := Option.bind_eq_some_iff.mp H
  obtain ⟨t734, A20, H⟩ := H
  replace H : (if t734 < 0 then (some true) else ((laws_toTrie.f k l0_0).bind fun t735 => ((spec_FirstWords.f k t735).bind fun bt738 => ((laws_toTrie.f k l0_0).bind fun t743 => ((impl_FirstWords.f t743).bind fun bt747 => ((laws_eqTrie.f k bt747.1 bt738.1).bind fun t752 => (if t752 = true then (laws_FnExactFirstWords.j0 k bt738.2 bt747.2 (bt747.2 != bt738.2) l0_0 bt738.1 t743 bt747.1) else (laws_FnExactFirstWords.j0 k bt738.2 bt747.2 true l0_0 bt738.1 t743 bt747.1)))))))) = some r := H
  have A2 := Aside0.mk A20
  clear A20
  by_cases c3 : t734 < 0
  · rw [if_pos c3] at H
    have c3b0 : decide (t734 < 0) = true := decide_eq_true c3
    clear c3
    obtain rfl := Option.some.inj H
    go_enter Try.func12, Try.ntmps12
    go_wp2_with (first | ((with_reducible refine gate_dst (N := 1) rfl ?_); refine box_event ?hg (N := 1) ?hd (cs := #[.slice A0_0 l0_0.length c0_0]) (t := 24) ?hr ?_; (case hd => rfl); (case hg => rfl); (case hr => first | (go_simp; done) | (go_simp; rfl)); intro gb733 hg w4 hbox hb; have n0_ := Aside0.mk (below_step (by repeat (first | (with_reducible first | exact HB.out | apply below_alloc | apply pw_below_drewN | apply below_drew1) | exact HB.out)) hb); have n1_ := Aside0.mk (hbox); have n2_ := Aside0.mk ((by rw [hg]; exact (below_size (by repeat (first | (with_reducible first | exact HB.out | apply below_alloc | apply pw_below_drewN | apply below_drew1) | exact HB.out))) : w.heap.size ≤ gb733)); have n3_ := Aside0.mk ((by rw [hg]; exact (below_size (by repeat (first | (with_reducible first | exact HB.out | apply below_alloc | apply pw_below_drewN | apply below_drew1) | exact HB.out))) : w.heap.size ≤ gb733)); clear HB; have HB := n0_; have BK733 := n1_; have GW733 := n2_; have GE733 := n3_; clear n0_ n1_ n2_ n3_; clear hb hbox hg; have hcz5_0 : w4.cell? ⟨gb733, 0, none⟩ = some (.slice A0_0 l0_0.length c0_0) := (blk_cell BK733.out 0).trans rfl; have hfz5_0 := blk_frozen BK733.out 0) | ((with_reducible refine gate_callee (f := 15) rfl ?_); refine goesL_ (some 16) rfl rfl Try.func15 (by kernel_rfl) rfl #[.agg #[.slice A0_0 l0_0.length c0_0], .int .i64 1048576] rfl (by (try simp only [List.map_toArray, List.map_cons, List.map_nil]); first | done | rfl | (simp only [List.length_drop, List.length_take]; rfl)) ?_; (with_reducible refine (laws_szTrie.calls _ _ l0_0 1048576 t734 _ ?side1 ?side2 A2.out).mono ?_); (case side1 => repeat (first | exact (Kd.C_below HR0_0.out HB.out) | (with_reducible refine Kd.C_alloc ?_ _) | (with_reducible refine Kd.C_drewN ?_ _) | (with_reducible refine Kd.C_drew ?_))); (case side2 => exact HC0_0.out); rintro e w6 ⟨rfl, hb⟩; refine ⟨_, rfl, ?_⟩; have n0_ := Aside0.mk (blk_below (g := gb733) (o := .cells #[.slice A0_0 l0_0.length c0_0] 24 (0, 0)) (by (with_reducible repeat (first | refine blk_drewN ?_ _ | refine blk_drew ?_ | refine blk_alloc ?_ _)); exact BK733.out) hb); have n1_ := Aside0.mk (below_step (by repeat (first | (with_reducible first | exact HB.out | apply below_alloc | apply pw_below_drewN | apply below_drew1 | refine below_set ?_ GE733.out) | exact HB.out)) hb); clear BK733; clear HB; have BK733 := n0_; have HB := n1_; clear n0_ n1_; (try clear hb); (try clear hb2); (try clear hk); (try clear hi)))
    go_ret
    exact ⟨by first | rfl | (simp [errW_none, errW_some] <;> rfl) | (simp [*, errW_none, errW_some] <;> rfl), by repeat (first | (with_reducible first | exact HB.out | apply below_alloc | apply pw_below_drewN | apply below_drew1 | refine below_set ?_ GE733.out) | exact HB.out)⟩
  · rw [if_neg c3] at H
    have c3b0 : decide (t734 < 0) = false := decide_eq_false c3
    clear c3
    replace H := Option.bind_eq_some_iff.mp H
    obtain ⟨t735, A70, H⟩ := H
    replace H : ((spec_FirstWords.f k t735).bind fun bt738 => ((laws_toTrie.f k l0_0).bind fun t743 => ((impl_FirstWords.f t743).bind fun bt747 => ((laws_eqTrie.f k bt747.1 bt738.1).bind fun t752 => (if t752 = true then (laws_FnExactFirstWords.j0 k bt738.2 bt747.2 (bt747.2 != bt738.2) l0_0 bt738.1 t743 bt747.1) else (laws_FnExactFirstWords.j0 k bt738.2 bt747.2 true l0_0 bt738.1 t743 bt747.1)))))) = some r := H
    have A7 := Aside0.mk A70
    clear A70
    replace H := Option.bind_eq_some_iff.mp H
    obtain ⟨⟨t738, t741⟩, A80, H⟩ := H
    replace H : ((laws_toTrie.f k l0_0).bind fun t743 => ((impl_FirstWords.f t743).bind fun bt747 => ((laws_eqTrie.f k bt747.1 t738).bind fun t752 => (if t752 = true then (laws_FnExactFirstWords.j0 k t741 bt747.2 (bt747.2 != t741) l0_0 t738 t743 bt747.1) else (laws_FnExactFirstWords.j0 k t741 bt747.2 true l0_0 t738 t743 bt747.1))))) = some r := H
    have A8 := Aside0.mk A80
    clear A80
    replace H := Option.bind_eq_some_iff.mp H
    obtain ⟨t743, A90, H⟩ := H
    replace H : ((impl_FirstWords.f t743).bind fun bt747 => ((laws_eqTrie.f k bt747.1 t738).bind fun t752 => (if t752 = true then (laws_FnExactFirstWords.j0 k t741 bt747.2 (bt747.2 != t741) l0_0 t738 t743 bt747.1) else (laws_FnExactFirstWords.j0 k t741 bt747.2 true l0_0 t738 t743 bt747.1)))) = some r := H
    have A9 := Aside0.mk A90
    clear A90
    replace H := Option.bind_eq_some_iff.mp H
    obtain ⟨⟨t747, t750⟩, A100, H⟩ := H
    replace H : ((laws_eqTrie.f k t747 t738).bind fun t752 => (if t752 = true then (laws_FnExactFirstWords.j0 k t741 t750 (t750 != t741) l0_0 t738 t743 t747) else (laws_FnExactFirstWords.j0 k t741 t750 true l0_0 t738 t743 t747))) = some r := H
    have A10 := Aside0.mk A100
    clear A100
    have HC11 := Aside0.mk H
    clear H
    go_enter Try.func12, Try.ntmps12
    go_upto_region 8 with (first | ((with_reducible refine gate_dst (N := 1) rfl ?_); refine box_event ?hg (N := 1) ?hd (cs := #[.slice A0_0 l0_0.length c0_0]) (t := 24) ?hr ?_; (case hd => rfl); (case hg => rfl); (case hr => first | (go_simp; done) | (go_simp; rfl)); intro gb733 hg w12 hbox hb; have n0_ := Aside0.mk (below_step (by repeat (first | (with_reducible first | exact HB.out | apply below_alloc | apply pw_below_drewN | apply below_drew1) | exact HB.out)) hb); have n1_ := Aside0.mk (hbox); have n2_ := Aside0.mk ((by rw [hg]; exact (below_size (by repeat (first | (with_reducible first | exact HB.out | apply below_alloc | apply pw_below_drewN | apply below_drew1) | exact HB.out))) : w.heap.size ≤ gb733)); have n3_ := Aside0.mk ((by rw [hg]; exact (below_size (by repeat (first | (with_reducible first | exact HB.out | apply below_alloc | apply pw_below_drewN | apply below_drew1) | exact HB.out))) : w.heap.size ≤ gb733)); clear HB; have HB := n0_; have BK733 := n1_; have GW733 := n2_; have GE733 := n3_; clear n0_ n1_ n2_ n3_; clear hb hbox hg; have hcz13_0 : w12.cell? ⟨gb733, 0, none⟩ = some (.slice A0_0 l0_0.length c0_0) := (blk_cell BK733.out 0).trans rfl; have hfz13_0 := blk_frozen BK733.out 0) | ((with_reducible refine gate_callee (f := 15) rfl ?_); refine goesL_ (some 16) rfl rfl Try.func15 (by kernel_rfl) rfl #[.agg #[.slice A0_0 l0_0.length c0_0], .int .i64 1048576] rfl (by (try simp only [List.map_toArray, List.map_cons, List.map_nil]); first | done | rfl | (simp only [List.length_drop, List.length_take]; rfl)) ?_; (with_reducible refine (laws_szTrie.calls _ _ l0_0 1048576 t734 _ ?side1 ?side2 A2.out).mono ?_); (case side1 => repeat (first | exact (Kd.C_below HR0_0.out HB.out) | (with_reducible refine Kd.C_alloc ?_ _) | (with_reducible refine Kd.C_drewN ?_ _) | (with_reducible refine Kd.C_drew ?_))); (case side2 => exact HC0_0.out); rintro e w14 ⟨rfl, hb⟩; refine ⟨_, rfl, ?_⟩; have n0_ := Aside0.mk (blk_below (g := gb733) (o := .cells #[.slice A0_0 l0_0.length c0_0] 24 (0, 0)) (by (with_reducible repeat (first | refine blk_drewN ?_ _ | refine blk_drew ?_ | refine blk_alloc ?_ _)); exact BK733.out) hb); have n1_ := Aside0.mk (below_step (by repeat (first | (with_reducible first | exact HB.out | apply below_alloc | apply pw_below_drewN | apply below_drew1 | refine below_set ?_ GE733.out) | exact HB.out)) hb); clear BK733; clear HB; have BK733 := n0_; have HB := n1_; clear n0_ n1_; (try clear hb); (try clear hb2); (try clear hk); (try clear hi); have hcz15_0 : w14.cell? ⟨gb733, 0, none⟩ = some (.slice A0_0 l0_0.length c0_0) := (blk_cell BK733.out 0).trans rfl; have hfz15_0 := blk_frozen BK733.out 0) | ((with_reducible refine gate_callee (f := 17) rfl ?_); refine goesL_ (some 21) rfl rfl Try.func17 (by kernel_rfl) rfl #[.agg #[.slice A0_0 l0_0.length c0_0]] rfl (by (try simp only [List.map_toArray, List.map_cons, List.map_nil]); first | done | rfl | (simp only [List.length_drop, List.length_take]; rfl)) ?_; (with_reducible refine (laws_toTrie.calls k _ _ l0_0 t735 _ ?side1 ?side2 A7.out).mono ?_); (case side1 => repeat (first | exact (Kd.C_below HR0_0.out HB.out) | (with_reducible refine Kd.C_alloc ?_ _) | (with_reducible refine Kd.C_drewN ?_ _) | (with_reducible refine Kd.C_drew ?_))); (case side2 => exact HC0_0.out); rintro e w16 ⟨v736, rfl, ho0, hb⟩; refine ⟨_, rfl, ?_⟩; have n0_ := Aside0.mk (Kd.R_lower ho0 (below_size (by repeat (first | (with_reducible first | exact HB.out | apply below_alloc | apply pw_below_drewN | apply below_drew1 | refine below_set ?_ GE733.out) | exact HB.out)))); have n1_ := Aside0.mk (blk_below (g := gb733) (o := .cells #[.slice A0_0 l0_0.length c0_0] 24 (0, 0)) (by (with_reducible repeat (first | refine blk_drewN ?_ _ | refine blk_drew ?_ | refine blk_alloc ?_ _)); exact BK733.out) hb); have n2_ := Aside0.mk (below_step (by repeat (first | (with_reducible first | exact HB.out | apply below_alloc | apply pw_below_drewN | apply below_drew1 | refine below_set ?_ GE733.out) | exact HB.out)) hb); clear BK733; clear HB; have HO737 := n0_; have BK733 := n1_; have HB := n2_; clear n0_ n1_ n2_; (try clear hb); (try clear hb2); (try clear hk); (try clear hi); (try clear ho0); obtain ⟨Ao17, co17, eo17⟩ := Kd.R_slice HO737.out; subst eo17) | ((with_reducible refine gate_callee (f := 41) rfl ?_); refine goesL_ (some 22) rfl rfl Try.func41 (by kernel_rfl) rfl #[.agg #[.slice Ao17 t735.length co17]] rfl (by (try simp only [List.map_toArray, List.map_cons, List.map_nil]); first | done | rfl | (simp only [List.length_drop, List.length_take]; rfl)) ?_; (with_reducible refine (spec_FirstWords.calls k _ _ t735 t738 t741 _ ?side1 ?side2 A8.out).mono ?_); (case side1 => repeat (first | exact (Kd.R_reads' HO737.out).2.2 | (with_reducible refine Kd.C_alloc ?_ _) | (with_reducible refine Kd.C_drewN ?_ _) | (with_reducible refine Kd.C_drew ?_))); (case side2 => exact (Kd.R_reads' HO737.out).2.1); rintro e w18 ⟨v739, rfl, ho0, hb⟩; refine ⟨_, rfl, ?_⟩; have n0_ := Aside0.mk (Kd.R_elder' (by (with_reducible repeat (first | apply Kd.R_alloc | apply Kd.R_drewN | apply Kd.R_drew)); exact HO737.out) (Kd.R_base ho0) hb); have n1_ := Aside0.mk (Kd.R_lower (Kd.R_new' ho0 (Kd.R_lt (by (with_reducible repeat (first | apply Kd.R_alloc | apply Kd.R_drewN | apply Kd.R_drew)); exact HO737.out))) (below_size (by repeat (first | (with_reducible first | exact HB.out | apply below_alloc | apply pw_below_drewN | apply below_drew1 | refine below_set ?_ GE733.out) | exact HB.out)))); have n2_ := Aside0.mk (blk_below (g := gb733) (o := .cells #[.slice A0_0 l0_0.length c0_0] 24 (0, 0)) (by (with_reducible repeat (first | refine blk_drewN ?_ _ | refine blk_drew ?_ | refine blk_alloc ?_ _)); exact BK733.out) hb); have n3_ := Aside0.mk (below_step (by repeat (first | (with_reducible first | exact HB.out | apply below_alloc | apply pw_below_drewN | apply below_drew1 | refine below_set ?_ GE733.out) | exact HB.out)) hb); clear HO737; clear BK733; clear HB; have HO737 := n0_; have HO740 := n1_; have BK733 := n2_; have HB := n3_; clear n0_ n1_ n2_ n3_; (try clear hb); (try clear hb2); (try clear hk); (try clear hi); (try clear ho0)) | ((with_reducible refine gate_dst (N := 4) rfl ?_); refine box_event ?hg (N := 4) ?hd (cs := #[.slice none 0 0]) (t := 30) ?hr ?_; (case hd => rfl); (case hg => rfl); (case hr => first | (go_simp; done) | (go_simp; rfl)); intro gb742 hg w19 hbox hb; have n0_ := Aside0.mk (Kd.R_below (by (with_reducible repeat (first | apply Kd.R_alloc | apply Kd.R_drewN | apply Kd.R_drew)); exact HO737.out) hb); have n1_ := Aside0.mk (Kd.R_below (by (with_reducible repeat (first | apply Kd.R_alloc | apply Kd.R_drewN | apply Kd.R_drew)); exact HO740.out) hb); have n2_ := Aside0.mk (blk_below (g := gb733) (o := .cells #[.slice A0_0 l0_0.length c0_0] 24 (0, 0)) (by (with_reducible repeat (first | refine blk_drewN ?_ _ | refine blk_drew ?_ | refine blk_alloc ?_ _)); exact BK733.out) hb); have n3_ := Aside0.mk (below_step (by repeat (first | (with_reducible first | exact HB.out | apply below_alloc | apply pw_below_drewN | apply below_drew1 | refine below_set ?_ GE733.out) | exact HB.out)) hb); have n4_ := Aside0.mk (hbox); have n5_ := Aside0.mk ((by rw [hg]; exact (below_size (by repeat (first | (with_reducible first | exact HB.out | apply below_alloc | apply pw_below_drewN | apply below_drew1 | refine below_set ?_ GE733.out) | exact HB.out))) : w.heap.size ≤ gb742)); have n6_ := Aside0.mk ((by rw [hg]; exact (below_size (by repeat (first | (with_reducible first | exact HB.out | apply below_alloc | apply pw_below_drewN | apply below_drew1 | refine below_set ?_ GE733.out) | exact HB.out))) : w.heap.size ≤ gb742)); have n7_ := Aside0.mk ((by rw [hg]; exact Nat.ne_of_lt (blk_lt (g := gb733) (o := .cells #[.slice A0_0 l0_0.length c0_0] 24 (0, 0)) (by (with_reducible repeat (first | refine blk_drewN ?_ _ | refine blk_drew ?_ | refine blk_alloc ?_ _)); exact BK733.out)) : gb733 ≠ gb742)); have n8_ := Aside0.mk ((by rw [hg]; exact Nat.ne_of_gt (blk_lt (g := gb733) (o := .cells #[.slice A0_0 l0_0.length c0_0] 24 (0, 0)) (by (with_reducible repeat (first | refine blk_drewN ?_ _ | refine blk_drew ?_ | refine blk_alloc ?_ _)); exact BK733.out)) : gb742 ≠ gb733)); clear HO737; clear HO740; clear BK733; clear HB; have HO737 := n0_; have HO740 := n1_; have BK733 := n2_; have HB := n3_; have BK742 := n4_; have GW742 := n5_; have GE742 := n6_; have NB733_742 := n7_; have NB742_733 := n8_; clear n0_ n1_ n2_ n3_ n4_ n5_ n6_ n7_ n8_; clear hb hbox hg; obtain ⟨Ao20, co20, eo20⟩ := Kd.R_slice HO740.out; subst eo20; have hnb21 := NB742_733.out; have hnc21 := NB733_742.out; have hcz22_0 : w19.cell? ⟨gb742, 0, none⟩ = some (.slice none 0 0) := (blk_cell BK742.out 0).trans rfl; have hfz22_0 := blk_frozen BK742.out 0; have hcz23_0 : w19.cell? ⟨gb733, 0, none⟩ = some (.slice A0_0 l0_0.length c0_0) := (blk_cell BK733.out 0).trans rfl; have hfz23_0 := blk_frozen BK733.out 0) | ((with_reducible refine gate_callee (f := 17) rfl ?_); refine goesL_ (some 26) rfl rfl Try.func17 (by kernel_rfl) rfl #[.agg #[.slice A0_0 l0_0.length c0_0]] rfl (by (try simp only [List.map_toArray, List.map_cons, List.map_nil]); first | done | rfl | (simp only [List.length_drop, List.length_take]; rfl)) ?_; (with_reducible refine (laws_toTrie.calls k _ _ l0_0 t743 _ ?side1 ?side2 A9.out).mono ?_); (case side1 => exact Kd.C_below HR0_0.out (by repeat (first | (with_reducible first | exact HB.out | apply below_alloc | apply pw_below_drewN | apply below_drew1 | refine below_set ?_ GE733.out | refine below_set ?_ GE742.out) | exact HB.out))); (case side2 => exact HC0_0.out); rintro e w24 ⟨v744, rfl, ho0, hb⟩; refine ⟨_, rfl, ?_⟩; have n0_ := Aside0.mk (Kd.R_elder' (by (with_reducible repeat (first | apply Kd.R_alloc | apply Kd.R_drewN | apply Kd.R_drew)); exact (Kd.R_mono (R_same_ (Kd.R_far (p := ⟨gb742, 0, none⟩) (Kd.R_types HO737.out BK742.out (by decide)) (fun _ hk => hk.2) (.slice Ao20 t738.length co20)) rfl) (fun _ h_ => h_.1))) (Kd.R_base ho0) hb); have n1_ := Aside0.mk (Kd.R_elder' (by (with_reducible repeat (first | apply Kd.R_alloc | apply Kd.R_drewN | apply Kd.R_drew)); exact (Kd.R_mono (R_same_ (Kd.R_far (p := ⟨gb742, 0, none⟩) (Kd.R_types HO740.out BK742.out (by decide)) (fun _ hk => hk.2) (.slice Ao20 t738.length co20)) rfl) (fun _ h_ => h_.1))) (Kd.R_base ho0) hb); have n2_ := Aside0.mk (Kd.R_lower (Kd.R_new' (Kd.R_new' ho0 (Kd.R_lt (by (with_reducible repeat (first | apply Kd.R_alloc | apply Kd.R_drewN | apply Kd.R_drew)); exact (Kd.R_mono (R_same_ (Kd.R_far (p := ⟨gb742, 0, none⟩) (Kd.R_types HO737.out BK742.out (by decide)) (fun _ hk => hk.2) (.slice Ao20 t738.length co20)) rfl) (fun _ h_ => h_.1))))) (Kd.R_lt (by (with_reducible repeat (first | apply Kd.R_alloc | apply Kd.R_drewN | apply Kd.R_drew)); exact (Kd.R_mono (R_same_ (Kd.R_far (p := ⟨gb742, 0, none⟩) (Kd.R_types HO740.out BK742.out (by decide)) (fun _ hk => hk.2) (.slice Ao20 t738.length co20)) rfl) (fun _ h_ => h_.1))))) (below_size (by repeat (first | (with_reducible first | exact HB.out | apply below_alloc | apply pw_below_drewN | apply below_drew1 | refine below_set ?_ GE733.out | refine below_set ?_ GE742.out) | exact HB.out)))); have n3_ := Aside0.mk (blk_below (g := gb733) (o := .cells #[.slice A0_0 l0_0.length c0_0] 24 (0, 0)) (by (with_reducible repeat (first | refine blk_drewN ?_ _ | refine blk_drew ?_ | refine blk_alloc ?_ _)); refine blk_far ?_ NB733_742.out _; (with_reducible repeat (first | refine blk_drewN ?_ _ | refine blk_drew ?_ | refine blk_alloc ?_ _)); exact BK733.out) hb); have n4_ := Aside0.mk (blk_below (g := gb742) (o := .cells #[.slice Ao20 t738.length co20] 30 (0, 0)) (by (with_reducible repeat (first | refine blk_drewN ?_ _ | refine blk_drew ?_ | refine blk_alloc ?_ _)); refine blk_put (cs := #[.slice none 0 0]) ?_ 0 _ rfl; (with_reducible repeat (first | refine blk_drewN ?_ _ | refine blk_drew ?_ | refine blk_alloc ?_ _)); exact BK742.out) hb); have n5_ := Aside0.mk (below_step (by repeat (first | (with_reducible first | exact HB.out | apply below_alloc | apply pw_below_drewN | apply below_drew1 | refine below_set ?_ GE733.out | refine below_set ?_ GE742.out) | exact HB.out)) hb); clear HO737; clear HO740; clear BK733; clear BK742; clear HB; have HO737 := n0_; have HO740 := n1_; have HO745 := n2_; have BK733 := n3_; have BK742 := n4_; have HB := n5_; clear n0_ n1_ n2_ n3_ n4_ n5_; (try clear hb); (try clear hb2); (try clear hk); (try clear hi); (try clear ho0)) | ((with_reducible refine gate_dst (N := 6) rfl ?_); refine box_event ?hg (N := 6) ?hd (cs := #[.slice none 0 0]) (t := 30) ?hr ?_; (case hd => rfl); (case hg => rfl); (case hr => first | (go_simp; done) | (go_simp; rfl)); intro gb746 hg w25 hbox hb; have n0_ := Aside0.mk (Kd.R_below (by (with_reducible repeat (first | apply Kd.R_alloc | apply Kd.R_drewN | apply Kd.R_drew)); exact HO737.out) hb); have n1_ := Aside0.mk (Kd.R_below (by (with_reducible repeat (first | apply Kd.R_alloc | apply Kd.R_drewN | apply Kd.R_drew)); exact HO740.out) hb); have n2_ := Aside0.mk (Kd.R_below (by (with_reducible repeat (first | apply Kd.R_alloc | apply Kd.R_drewN | apply Kd.R_drew)); exact HO745.out) hb); have n3_ := Aside0.mk (blk_below (g := gb733) (o := .cells #[.slice A0_0 l0_0.length c0_0] 24 (0, 0)) (by (with_reducible repeat (first | refine blk_drewN ?_ _ | refine blk_drew ?_ | refine blk_alloc ?_ _)); exact BK733.out) hb); have n4_ := Aside0.mk (blk_below (g := gb742) (o := .cells #[.slice Ao20 t738.length co20] 30 (0, 0)) (by (with_reducible repeat (first | refine blk_drewN ?_ _ | refine blk_drew ?_ | refine blk_alloc ?_ _)); exact BK742.out) hb); have n5_ := Aside0.mk (below_step (by repeat (first | (with_reducible first | exact HB.out | apply below_alloc | apply pw_below_drewN | apply below_drew1 | refine below_set ?_ GE733.out | refine below_set ?_ GE742.out) | exact HB.out)) hb); have n6_ := Aside0.mk (hbox); have n7_ := Aside0.mk ((by rw [hg]; exact (below_size (by repeat (first | (with_reducible first | exact HB.out | apply below_alloc | apply pw_below_drewN | apply below_drew1 | refine below_set ?_ GE733.out | refine below_set ?_ GE742.out) | exact HB.out))) : w.heap.size ≤ gb746)); have n8_ := Aside0.mk ((by rw [hg]; exact (below_size (by repeat (first | (with_reducible first | exact HB.out | apply below_alloc | apply pw_below_drewN | apply below_drew1 | refine below_set ?_ GE733.out | refine below_set ?_ GE742.out) | exact HB.out))) : w.heap.size ≤ gb746)); have n9_ := Aside0.mk ((by rw [hg]; exact Nat.ne_of_lt (blk_lt (g := gb733) (o := .cells #[.slice A0_0 l0_0.length c0_0] 24 (0, 0)) (by (with_reducible repeat (first | refine blk_drewN ?_ _ | refine blk_drew ?_ | refine blk_alloc ?_ _)); exact BK733.out)) : gb733 ≠ gb746)); have n10_ := Aside0.mk ((by rw [hg]; exact Nat.ne_of_gt (blk_lt (g := gb733) (o := .cells #[.slice A0_0 l0_0.length c0_0] 24 (0, 0)) (by (with_reducible repeat (first | refine blk_drewN ?_ _ | refine blk_drew ?_ | refine blk_alloc ?_ _)); exact BK733.out)) : gb746 ≠ gb733)); have n11_ := Aside0.mk ((by rw [hg]; exact Nat.ne_of_lt (blk_lt (g := gb742) (o := .cells #[.slice Ao20 t738.length co20] 30 (0, 0)) (by (with_reducible repeat (first | refine blk_drewN ?_ _ | refine blk_drew ?_ | refine blk_alloc ?_ _)); exact BK742.out)) : gb742 ≠ gb746)); have n12_ := Aside0.mk ((by rw [hg]; exact Nat.ne_of_gt (blk_lt (g := gb742) (o := .cells #[.slice Ao20 t738.length co20] 30 (0, 0)) (by (with_reducible repeat (first | refine blk_drewN ?_ _ | refine blk_drew ?_ | refine blk_alloc ?_ _)); exact BK742.out)) : gb746 ≠ gb742)); clear HO737; clear HO740; clear HO745; clear BK733; clear BK742; clear HB; have HO737 := n0_; have HO740 := n1_; have HO745 := n2_; have BK733 := n3_; have BK742 := n4_; have HB := n5_; have BK746 := n6_; have GW746 := n7_; have GE746 := n8_; have NB733_746 := n9_; have NB746_733 := n10_; have NB742_746 := n11_; have NB746_742 := n12_; clear n0_ n1_ n2_ n3_ n4_ n5_ n6_ n7_ n8_ n9_ n10_ n11_ n12_; clear hb hbox hg; obtain ⟨Ao26, co26, eo26⟩ := Kd.R_slice HO745.out; subst eo26; have hnb27 := NB746_733.out; have hnc27 := NB733_746.out; have hnb28 := NB746_742.out; have hnc28 := NB742_746.out; have hcz29_0 : w25.cell? ⟨gb746, 0, none⟩ = some (.slice none 0 0) := (blk_cell BK746.out 0).trans rfl; have hfz29_0 := blk_frozen BK746.out 0) | ((with_reducible refine gate_callee (f := 42) rfl ?_); refine goesL_ (some 29) rfl rfl Try.func42 (by kernel_rfl) rfl #[.agg #[.slice Ao26 t743.length co26]] rfl (by (try simp only [List.map_toArray, List.map_cons, List.map_nil]); first | done | rfl | (simp only [List.length_drop, List.length_take]; rfl)) ?_; (with_reducible refine (impl_FirstWords.calls _ _ t743 t747 t750 _ ?side1 ?side2 A10.out).mono ?_); (case side1 => refine (Kd.R_reads' (e := 86) (base := w.heap.size) (ok := fun k_ => ((True ∧ some k_ ≠ (.slice Ao17 t735.length co17 : Value).ownBlock) ∧ some k_ ≠ (.slice Ao20 t738.length co20 : Value).ownBlock)) (n := t743.length) (c := co26) ?_).2.2; exact (by (with_reducible repeat (first | apply Kd.R_alloc | apply Kd.R_drewN | apply Kd.R_drew)); exact (Kd.R_mono (R_same_ (Kd.R_far (p := ⟨gb746, 0, none⟩) (Kd.R_types HO745.out BK746.out (by decide)) (fun _ hk => hk.2) (.slice Ao26 t743.length co26)) rfl) (fun _ h_ => h_.1)))); (case side2 => exact (Kd.R_reads' HO745.out).2.1); rintro e w30 ⟨v748, rfl, ho0, hb⟩; refine ⟨_, rfl, ?_⟩; have n0_ := Aside0.mk (Kd.R_elder' (by (with_reducible repeat (first | apply Kd.R_alloc | apply Kd.R_drewN | apply Kd.R_drew)); exact (Kd.R_mono (R_same_ (Kd.R_far (p := ⟨gb746, 0, none⟩) (Kd.R_types HO737.out BK746.out (by decide)) (fun _ hk => hk.2) (.slice Ao26 t743.length co26)) rfl) (fun _ h_ => h_.1))) (Kd.R_base ho0) hb); have n1_ := Aside0.mk (Kd.R_elder' (by (with_reducible repeat (first | apply Kd.R_alloc | apply Kd.R_drewN | apply Kd.R_drew)); exact (Kd.R_mono (R_same_ (Kd.R_far (p := ⟨gb746, 0, none⟩) (Kd.R_types HO740.out BK746.out (by decide)) (fun _ hk => hk.2) (.slice Ao26 t743.length co26)) rfl) (fun _ h_ => h_.1))) (Kd.R_base ho0) hb); have n2_ := Aside0.mk (Kd.R_elder' (by (with_reducible repeat (first | apply Kd.R_alloc | apply Kd.R_drewN | apply Kd.R_drew)); exact (Kd.R_mono (R_same_ (Kd.R_far (p := ⟨gb746, 0, none⟩) (Kd.R_types HO745.out BK746.out (by decide)) (fun _ hk => hk.2) (.slice Ao26 t743.length co26)) rfl) (fun _ h_ => h_.1))) (Kd.R_base ho0) hb); have n3_ := Aside0.mk (Kd.R_lower (Kd.R_new' (Kd.R_new' (Kd.R_new' ho0 (Kd.R_lt (by (with_reducible repeat (first | apply Kd.R_alloc | apply Kd.R_drewN | apply Kd.R_drew)); exact (Kd.R_mono (R_same_ (Kd.R_far (p := ⟨gb746, 0, none⟩) (Kd.R_types HO737.out BK746.out (by decide)) (fun _ hk => hk.2) (.slice Ao26 t743.length co26)) rfl) (fun _ h_ => h_.1))))) (Kd.R_lt (by (with_reducible repeat (first | apply Kd.R_alloc | apply Kd.R_drewN | apply Kd.R_drew)); exact (Kd.R_mono (R_same_ (Kd.R_far (p := ⟨gb746, 0, none⟩) (Kd.R_types HO740.out BK746.out (by decide)) (fun _ hk => hk.2) (.slice Ao26 t743.length co26)) rfl) (fun _ h_ => h_.1))))) (Kd.R_lt (by (with_reducible repeat (first | apply Kd.R_alloc | apply Kd.R_drewN | apply Kd.R_drew)); exact (Kd.R_mono (R_same_ (Kd.R_far (p := ⟨gb746, 0, none⟩) (Kd.R_types HO745.out BK746.out (by decide)) (fun _ hk => hk.2) (.slice Ao26 t743.length co26)) rfl) (fun _ h_ => h_.1))))) (below_size (by repeat (first | (with_reducible first | exact HB.out | apply below_alloc | apply pw_below_drewN | apply below_drew1 | refine below_set ?_ GE733.out | refine below_set ?_ GE742.out | refine below_set ?_ GE746.out) | exact HB.out)))); have n4_ := Aside0.mk (blk_below (g := gb733) (o := .cells #[.slice A0_0 l0_0.length c0_0] 24 (0, 0)) (by (with_reducible repeat (first | refine blk_drewN ?_ _ | refine blk_drew ?_ | refine blk_alloc ?_ _)); refine blk_far ?_ NB733_746.out _; (with_reducible repeat (first | refine blk_drewN ?_ _ | refine blk_drew ?_ | refine blk_alloc ?_ _)); exact BK733.out) hb); have n5_ := Aside0.mk (blk_below (g := gb742) (o := .cells #[.slice Ao20 t738.length co20] 30 (0, 0)) (by (with_reducible repeat (first | refine blk_drewN ?_ _ | refine blk_drew ?_ | refine blk_alloc ?_ _)); refine blk_far ?_ NB742_746.out _; (with_reducible repeat (first | refine blk_drewN ?_ _ | refine blk_drew ?_ | refine blk_alloc ?_ _)); exact BK742.out) hb); have n6_ := Aside0.mk (blk_below (g := gb746) (o := .cells #[.slice Ao26 t743.length co26] 30 (0, 0)) (by (with_reducible repeat (first | refine blk_drewN ?_ _ | refine blk_drew ?_ | refine blk_alloc ?_ _)); refine blk_put (cs := #[.slice none 0 0]) ?_ 0 _ rfl; (with_reducible repeat (first | refine blk_drewN ?_ _ | refine blk_drew ?_ | refine blk_alloc ?_ _)); exact BK746.out) hb); have n7_ := Aside0.mk (below_step (by repeat (first | (with_reducible first | exact HB.out | apply below_alloc | apply pw_below_drewN | apply below_drew1 | refine below_set ?_ GE733.out | refine below_set ?_ GE742.out | refine below_set ?_ GE746.out) | exact HB.out)) hb); clear HO737; clear HO740; clear HO745; clear BK733; clear BK742; clear BK746; clear HB; have HO737 := n0_; have HO740 := n1_; have HO745 := n2_; have HO749 := n3_; have BK733 := n4_; have BK742 := n5_; have BK746 := n6_; have HB := n7_; clear n0_ n1_ n2_ n3_ n4_ n5_ n6_ n7_; (try clear hb); (try clear hb2); (try clear hk); (try clear hi); (try clear ho0)) | ((with_reducible refine gate_dst (N := 7) rfl ?_); refine box_event ?hg (N := 7) ?hd (cs := #[.slice none 0 0]) (t := 30) ?hr ?_; (case hd => rfl); (case hg => rfl); (case hr => first | (go_simp; done) | (go_simp; rfl)); intro gb751 hg w31 hbox hb; have n0_ := Aside0.mk (Kd.R_below (by (with_reducible repeat (first | apply Kd.R_alloc | apply Kd.R_drewN | apply Kd.R_drew)); exact HO737.out) hb); have n1_ := Aside0.mk (Kd.R_below (by (with_reducible repeat (first | apply Kd.R_alloc | apply Kd.R_drewN | apply Kd.R_drew)); exact HO740.out) hb); have n2_ := Aside0.mk (Kd.R_below (by (with_reducible repeat (first | apply Kd.R_alloc | apply Kd.R_drewN | apply Kd.R_drew)); exact HO745.out) hb); have n3_ := Aside0.mk (Kd.R_below (by (with_reducible repeat (first | apply Kd.R_alloc | apply Kd.R_drewN | apply Kd.R_drew)); exact HO749.out) hb); have n4_ := Aside0.mk (blk_below (g := gb733) (o := .cells #[.slice A0_0 l0_0.length c0_0] 24 (0, 0)) (by (with_reducible repeat (first | refine blk_drewN ?_ _ | refine blk_drew ?_ | refine blk_alloc ?_ _)); exact BK733.out) hb); have n5_ := Aside0.mk (blk_below (g := gb742) (o := .cells #[.slice Ao20 t738.length co20] 30 (0, 0)) (by (with_reducible repeat (first | refine blk_drewN ?_ _ | refine blk_drew ?_ | refine blk_alloc ?_ _)); exact BK742.out) hb); have n6_ := Aside0.mk (blk_below (g := gb746) (o := .cells #[.slice Ao26 t743.length co26] 30 (0, 0)) (by (with_reducible repeat (first | refine blk_drewN ?_ _ | refine blk_drew ?_ | refine blk_alloc ?_ _)); exact BK746.out) hb); have n7_ := Aside0.mk (below_step (by repeat (first | (with_reducible first | exact HB.out | apply below_alloc | apply pw_below_drewN | apply below_drew1 | refine below_set ?_ GE733.out | refine below_set ?_ GE742.out | refine below_set ?_ GE746.out) | exact HB.out)) hb); have n8_ := Aside0.mk (hbox); have n9_ := Aside0.mk ((by rw [hg]; exact (below_size (by repeat (first | (with_reducible first | exact HB.out | apply below_alloc | apply pw_below_drewN | apply below_drew1 | refine below_set ?_ GE733.out | refine below_set ?_ GE742.out | refine below_set ?_ GE746.out) | exact HB.out))) : w.heap.size ≤ gb751)); have n10_ := Aside0.mk ((by rw [hg]; exact (below_size (by repeat (first | (with_reducible first | exact HB.out | apply below_alloc | apply pw_below_drewN | apply below_drew1 | refine below_set ?_ GE733.out | refine below_set ?_ GE742.out | refine below_set ?_ GE746.out) | exact HB.out))) : w.heap.size ≤ gb751)); have n11_ := Aside0.mk ((by rw [hg]; exact Nat.ne_of_lt (blk_lt (g := gb733) (o := .cells #[.slice A0_0 l0_0.length c0_0] 24 (0, 0)) (by (with_reducible repeat (first | refine blk_drewN ?_ _ | refine blk_drew ?_ | refine blk_alloc ?_ _)); exact BK733.out)) : gb733 ≠ gb751)); have n12_ := Aside0.mk ((by rw [hg]; exact Nat.ne_of_gt (blk_lt (g := gb733) (o := .cells #[.slice A0_0 l0_0.length c0_0] 24 (0, 0)) (by (with_reducible repeat (first | refine blk_drewN ?_ _ | refine blk_drew ?_ | refine blk_alloc ?_ _)); exact BK733.out)) : gb751 ≠ gb733)); have n13_ := Aside0.mk ((by rw [hg]; exact Nat.ne_of_lt (blk_lt (g := gb742) (o := .cells #[.slice Ao20 t738.length co20] 30 (0, 0)) (by (with_reducible repeat (first | refine blk_drewN ?_ _ | refine blk_drew ?_ | refine blk_alloc ?_ _)); exact BK742.out)) : gb742 ≠ gb751)); have n14_ := Aside0.mk ((by rw [hg]; exact Nat.ne_of_gt (blk_lt (g := gb742) (o := .cells #[.slice Ao20 t738.length co20] 30 (0, 0)) (by (with_reducible repeat (first | refine blk_drewN ?_ _ | refine blk_drew ?_ | refine blk_alloc ?_ _)); exact BK742.out)) : gb751 ≠ gb742)); have n15_ := Aside0.mk ((by rw [hg]; exact Nat.ne_of_lt (blk_lt (g := gb746) (o := .cells #[.slice Ao26 t743.length co26] 30 (0, 0)) (by (with_reducible repeat (first | refine blk_drewN ?_ _ | refine blk_drew ?_ | refine blk_alloc ?_ _)); exact BK746.out)) : gb746 ≠ gb751)); have n16_ := Aside0.mk ((by rw [hg]; exact Nat.ne_of_gt (blk_lt (g := gb746) (o := .cells #[.slice Ao26 t743.length co26] 30 (0, 0)) (by (with_reducible repeat (first | refine blk_drewN ?_ _ | refine blk_drew ?_ | refine blk_alloc ?_ _)); exact BK746.out)) : gb751 ≠ gb746)); clear HO737; clear HO740; clear HO745; clear HO749; clear BK733; clear BK742; clear BK746; clear HB; have HO737 := n0_; have HO740 := n1_; have HO745 := n2_; have HO749 := n3_; have BK733 := n4_; have BK742 := n5_; have BK746 := n6_; have HB := n7_; have BK751 := n8_; have GW751 := n9_; have GE751 := n10_; have NB733_751 := n11_; have NB751_733 := n12_; have NB742_751 := n13_; have NB751_742 := n14_; have NB746_751 := n15_; have NB751_746 := n16_; clear n0_ n1_ n2_ n3_ n4_ n5_ n6_ n7_ n8_ n9_ n10_ n11_ n12_ n13_ n14_ n15_ n16_; clear hb hbox hg; obtain ⟨Ao32, co32, eo32⟩ := Kd.R_slice HO749.out; subst eo32; have hnb33 := NB751_733.out; have hnc33 := NB733_751.out; have hnb34 := NB751_742.out; have hnc34 := NB742_751.out; have hnb35 := NB751_746.out; have hnc35 := NB746_751.out; have hcz36_0 : w31.cell? ⟨gb751, 0, none⟩ = some (.slice none 0 0) := (blk_cell BK751.out 0).trans rfl; have hfz36_0 := blk_frozen BK751.out 0))
    (try simp only [Act.put, List.setIfInBounds_toArray, List.set_cons_zero, List.set_cons_succ])
    go_cut [40] (fun v40 wc => ∃ (kq : Nat) (x40_10 : Bool), v40 = .bool x40_10 ∧ Aside0 (laws_FnExactFirstWords.j0 kq t741 t750 x40_10 l0_0 t738 t743 t747 = some r) ∧ Aside0 (kq ≤ k) ∧ Aside0 (Kd.R k86 86 wc w.heap.size (fun k_ => some k_ ≠ ((.slice Ao26 t743.length co26) : Value).ownBlock ∧ some k_ ≠ ((.slice Ao32 t747.length co32) : Value).ownBlock) (.slice Ao20 t738.length co20) t738) ∧ Aside0 (Kd.R k86 86 wc w.heap.size (fun k_ => some k_ ≠ ((.slice Ao20 t738.length co20) : Value).ownBlock ∧ some k_ ≠ ((.slice Ao32 t747.length co32) : Value).ownBlock) (.slice Ao26 t743.length co26) t743) ∧ Aside0 (Kd.R k86 86 wc w.heap.size (fun k_ => some k_ ≠ ((.slice Ao20 t738.length co20) : Value).ownBlock ∧ some k_ ≠ ((.slice Ao26 t743.length co26) : Value).ownBlock) (.slice Ao32 t747.length co32) t747) ∧ Aside0 (wc.heap[gb733]? = some (.cells #[(.slice A0_0 l0_0.length c0_0)] 24 (0, 0))) ∧ Aside0 (wc.heap[gb742]? = some (.cells #[(.slice Ao20 t738.length co20)] 30 (0, 0))) ∧ Aside0 (wc.heap[gb746]? = some (.cells #[(.slice Ao26 t743.length co26)] 30 (0, 0))) ∧ Aside0 (wc.heap[gb751]? = some (.cells #[(.slice Ao32 t747.length co32)] 30 (0, 0))) ∧ Aside0 (Below w.heap.size w wc))
    case first =>
      have H := HC11.out
      clear HC11
      replace H := Option.bind_eq_some_iff.mp H
      obtain ⟨t752, A370, H⟩ := H
      replace H : (if t752 = true then (laws_FnExactFirstWords.j0 k t741 t750 (t750 != t741) l0_0 t738 t743 t747) else (laws_FnExactFirstWords.j0 k t741 t750 true l0_0 t738 t743 t747)) = some r := H
      have A37 := Aside0.mk A370
      clear A370
      by_cases c38 : t752 = true
      · subst c38
        have H1 : (laws_FnExactFirstWords.j0 k t741 t750 (t750 != t741) l0_0 t738 t743 t747) = some r := by rw [if_pos rfl] at H; exact H
        clear H
        have H := H1
        clear H1
        have H' := Aside0.mk H
        clear H
        have hnb39 := NB751_733.out
        have hnc39 := NB733_751.out
        have hnb40 := NB751_742.out
        have hnc40 := NB742_751.out
        have hnb41 := NB751_746.out
        have hnc41 := NB746_751.out
        have hcz42_0 : w31.cell? ⟨gb751, 0, none⟩ = some (.slice none 0 0) := (blk_cell BK751.out 0).trans rfl
        have hfz42_0 := blk_frozen BK751.out 0
        have hnb43 := NB742_733.out
        have hnc43 := NB733_742.out
        have hnb44 := NB742_746.out
        have hnc44 := NB746_742.out
        have hcz45_0 : w31.cell? ⟨gb742, 0, none⟩ = some (.slice Ao20 t738.length co20) := (blk_cell BK742.out 0).trans rfl
        have hfz45_0 := blk_frozen BK742.out 0
        go_wp2_with (first | ((with_reducible refine gate_callee (f := 19) rfl ?_); refine goesL_ (some 34) rfl rfl Try.func19 (by kernel_rfl) rfl #[.agg #[.slice Ao32 t747.length co32], .agg #[.slice Ao20 t738.length co20]] rfl (by (try simp only [List.map_toArray, List.map_cons, List.map_nil]); first | done | rfl | (simp only [List.length_drop, List.length_take]; rfl)) ?_; (with_reducible refine (laws_eqTrie.calls k _ _ t747 _ _ t738 true _ ?side1 ?side2 ?side3 ?side4 A37.out).mono ?_); (case side1 => refine (Kd.R_reads' (e := 86) (base := w.heap.size) (ok := fun k_ => (((True ∧ some k_ ≠ (.slice Ao17 t735.length co17 : Value).ownBlock) ∧ some k_ ≠ (.slice Ao20 t738.length co20 : Value).ownBlock) ∧ some k_ ≠ (.slice Ao26 t743.length co26 : Value).ownBlock)) (n := t747.length) (c := co32) ?_).2.2; exact (by (with_reducible repeat (first | apply Kd.R_alloc | apply Kd.R_drewN | apply Kd.R_drew)); exact (Kd.R_mono (R_same_ (Kd.R_far (p := ⟨gb751, 0, none⟩) (Kd.R_types HO749.out BK751.out (by decide)) (fun _ hk => hk.2) (.slice Ao32 t747.length co32)) rfl) (fun _ h_ => h_.1)))); (case side2 => exact (Kd.R_reads' HO749.out).2.1); (case side3 => refine (Kd.R_reads' (e := 86) (base := w.heap.size) (ok := fun k_ => (((True ∧ some k_ ≠ (.slice Ao17 t735.length co17 : Value).ownBlock) ∧ some k_ ≠ (.slice Ao26 t743.length co26 : Value).ownBlock) ∧ some k_ ≠ (.slice Ao32 t747.length co32 : Value).ownBlock)) (n := t738.length) (c := co20) ?_).2.2; exact (by (with_reducible repeat (first | apply Kd.R_alloc | apply Kd.R_drewN | apply Kd.R_drew)); exact (Kd.R_mono (R_same_ (Kd.R_far (p := ⟨gb751, 0, none⟩) (Kd.R_types HO740.out BK751.out (by decide)) (fun _ hk => hk.2) (.slice Ao32 t747.length co32)) rfl) (fun _ h_ => h_.1)))); (case side4 => exact (Kd.R_reads' HO740.out).2.1); rintro e w46 ⟨rfl, hb⟩; refine ⟨_, rfl, ?_⟩; have n0_ := Aside0.mk (Kd.R_below (by (with_reducible repeat (first | apply Kd.R_alloc | apply Kd.R_drewN | apply Kd.R_drew)); exact (Kd.R_mono (R_same_ (Kd.R_far (p := ⟨gb751, 0, none⟩) (Kd.R_types HO737.out BK751.out (by decide)) (fun _ hk => hk.2) (.slice Ao32 t747.length co32)) rfl) (fun _ h_ => h_.1))) hb); have n1_ := Aside0.mk (Kd.R_below (by (with_reducible repeat (first | apply Kd.R_alloc | apply Kd.R_drewN | apply Kd.R_drew)); exact (Kd.R_mono (R_same_ (Kd.R_far (p := ⟨gb751, 0, none⟩) (Kd.R_types HO740.out BK751.out (by decide)) (fun _ hk => hk.2) (.slice Ao32 t747.length co32)) rfl) (fun _ h_ => h_.1))) hb); have n2_ := Aside0.mk (Kd.R_below (by (with_reducible repeat (first | apply Kd.R_alloc | apply Kd.R_drewN | apply Kd.R_drew)); exact (Kd.R_mono (R_same_ (Kd.R_far (p := ⟨gb751, 0, none⟩) (Kd.R_types HO745.out BK751.out (by decide)) (fun _ hk => hk.2) (.slice Ao32 t747.length co32)) rfl) (fun _ h_ => h_.1))) hb); have n3_ := Aside0.mk (Kd.R_below (by (with_reducible repeat (first | apply Kd.R_alloc | apply Kd.R_drewN | apply Kd.R_drew)); exact (Kd.R_mono (R_same_ (Kd.R_far (p := ⟨gb751, 0, none⟩) (Kd.R_types HO749.out BK751.out (by decide)) (fun _ hk => hk.2) (.slice Ao32 t747.length co32)) rfl) (fun _ h_ => h_.1))) hb); have n4_ := Aside0.mk (blk_below (g := gb733) (o := .cells #[.slice A0_0 l0_0.length c0_0] 24 (0, 0)) (by (with_reducible repeat (first | refine blk_drewN ?_ _ | refine blk_drew ?_ | refine blk_alloc ?_ _)); refine blk_far ?_ NB733_751.out _; (with_reducible repeat (first | refine blk_drewN ?_ _ | refine blk_drew ?_ | refine blk_alloc ?_ _)); exact BK733.out) hb); have n5_ := Aside0.mk (blk_below (g := gb742) (o := .cells #[.slice Ao20 t738.length co20] 30 (0, 0)) (by (with_reducible repeat (first | refine blk_drewN ?_ _ | refine blk_drew ?_ | refine blk_alloc ?_ _)); refine blk_far ?_ NB742_751.out _; (with_reducible repeat (first | refine blk_drewN ?_ _ | refine blk_drew ?_ | refine blk_alloc ?_ _)); exact BK742.out) hb); have n6_ := Aside0.mk (blk_below (g := gb746) (o := .cells #[.slice Ao26 t743.length co26] 30 (0, 0)) (by (with_reducible repeat (first | refine blk_drewN ?_ _ | refine blk_drew ?_ | refine blk_alloc ?_ _)); refine blk_far ?_ NB746_751.out _; (with_reducible repeat (first | refine blk_drewN ?_ _ | refine blk_drew ?_ | refine blk_alloc ?_ _)); exact BK746.out) hb); have n7_ := Aside0.mk (blk_below (g := gb751) (o := .cells #[.slice Ao32 t747.length co32] 30 (0, 0)) (by (with_reducible repeat (first | refine blk_drewN ?_ _ | refine blk_drew ?_ | refine blk_alloc ?_ _)); refine blk_put (cs := #[.slice none 0 0]) ?_ 0 _ rfl; (with_reducible repeat (first | refine blk_drewN ?_ _ | refine blk_drew ?_ | refine blk_alloc ?_ _)); exact BK751.out) hb); have n8_ := Aside0.mk (below_step (by repeat (first | (with_reducible first | exact HB.out | apply below_alloc | apply pw_below_drewN | apply below_drew1 | refine below_set ?_ GE733.out | refine below_set ?_ GE742.out | refine below_set ?_ GE746.out | refine below_set ?_ GE751.out) | exact HB.out)) hb); clear HO737; clear HO740; clear HO745; clear HO749; clear BK733; clear BK742; clear BK746; clear BK751; clear HB; have HO737 := n0_; have HO740 := n1_; have HO745 := n2_; have HO749 := n3_; have BK733 := n4_; have BK742 := n5_; have BK746 := n6_; have BK751 := n7_; have HB := n8_; clear n0_ n1_ n2_ n3_ n4_ n5_ n6_ n7_ n8_; (try clear hb); (try clear hb2); (try clear hk); (try clear hi)))
        go_meet
        case rel => exact ⟨_, ((t750 != t741)), (by first | rfl | (simp; done) | (simp [*]; done)), H', ⟨by first | omega | exact Nat.le_refl _⟩, ⟨by (with_reducible repeat (first | apply Kd.R_alloc | apply Kd.R_drewN | apply Kd.R_drew)); exact Kd.R_mono HO740.out (fun _ hk => ⟨hk.1.2, hk.2⟩)⟩, ⟨by (with_reducible repeat (first | apply Kd.R_alloc | apply Kd.R_drewN | apply Kd.R_drew)); exact Kd.R_mono HO745.out (fun _ hk => ⟨hk.1.2, hk.2⟩)⟩, ⟨by (with_reducible repeat (first | apply Kd.R_alloc | apply Kd.R_drewN | apply Kd.R_drew)); exact Kd.R_mono HO749.out (fun _ hk => ⟨hk.1.2, hk.2⟩)⟩, ⟨by (with_reducible repeat (first | refine blk_drewN ?_ _ | refine blk_drew ?_ | refine blk_alloc ?_ _)); exact BK733.out⟩, ⟨by (with_reducible repeat (first | refine blk_drewN ?_ _ | refine blk_drew ?_ | refine blk_alloc ?_ _)); exact BK742.out⟩, ⟨by (with_reducible repeat (first | refine blk_drewN ?_ _ | refine blk_drew ?_ | refine blk_alloc ?_ _)); exact BK746.out⟩, ⟨by (with_reducible repeat (first | refine blk_drewN ?_ _ | refine blk_drew ?_ | refine blk_alloc ?_ _)); exact BK751.out⟩, ⟨by repeat (first | (with_reducible first | exact HB.out | apply below_alloc | apply pw_below_drewN | apply below_drew1 | refine below_set ?_ GE733.out | refine below_set ?_ GE742.out | refine below_set ?_ GE746.out | refine below_set ?_ GE751.out) | exact HB.out)⟩⟩
      · replace c38 := Bool.eq_false_iff.mpr c38
        subst c38
        have H1 : (laws_FnExactFirstWords.j0 k t741 t750 true l0_0 t738 t743 t747) = some r := by rw [if_neg (show ¬ (false = true) by decide)] at H; exact H
        clear H
        have H := H1
        clear H1
        have H' := Aside0.mk H
        clear H
        have hnb47 := NB751_733.out
        have hnc47 := NB733_751.out
        have hnb48 := NB751_742.out
        have hnc48 := NB742_751.out
        have hnb49 := NB751_746.out
        have hnc49 := NB746_751.out
        have hcz50_0 : w31.cell? ⟨gb751, 0, none⟩ = some (.slice none 0 0) := (blk_cell BK751.out 0).trans rfl
        have hfz50_0 := blk_frozen BK751.out 0
        have hnb51 := NB742_733.out
        have hnc51 := NB733_742.out
        have hnb52 := NB742_746.out
        have hnc52 := NB746_742.out
        have hcz53_0 : w31.cell? ⟨gb742, 0, none⟩ = some (.slice Ao20 t738.length co20) := (blk_cell BK742.out 0).trans rfl
        have hfz53_0 := blk_frozen BK742.out 0
        go_wp2_with (first | ((with_reducible refine gate_callee (f := 19) rfl ?_); refine goesL_ (some 34) rfl rfl Try.func19 (by kernel_rfl) rfl #[.agg #[.slice Ao32 t747.length co32], .agg #[.slice Ao20 t738.length co20]] rfl (by (try simp only [List.map_toArray, List.map_cons, List.map_nil]); first | done | rfl | (simp only [List.length_drop, List.length_take]; rfl)) ?_; (with_reducible refine (laws_eqTrie.calls k _ _ t747 _ _ t738 false _ ?side1 ?side2 ?side3 ?side4 A37.out).mono ?_); (case side1 => refine (Kd.R_reads' (e := 86) (base := w.heap.size) (ok := fun k_ => (((True ∧ some k_ ≠ (.slice Ao17 t735.length co17 : Value).ownBlock) ∧ some k_ ≠ (.slice Ao20 t738.length co20 : Value).ownBlock) ∧ some k_ ≠ (.slice Ao26 t743.length co26 : Value).ownBlock)) (n := t747.length) (c := co32) ?_).2.2; exact (by (with_reducible repeat (first | apply Kd.R_alloc | apply Kd.R_drewN | apply Kd.R_drew)); exact (Kd.R_mono (R_same_ (Kd.R_far (p := ⟨gb751, 0, none⟩) (Kd.R_types HO749.out BK751.out (by decide)) (fun _ hk => hk.2) (.slice Ao32 t747.length co32)) rfl) (fun _ h_ => h_.1)))); (case side2 => exact (Kd.R_reads' HO749.out).2.1); (case side3 => refine (Kd.R_reads' (e := 86) (base := w.heap.size) (ok := fun k_ => (((True ∧ some k_ ≠ (.slice Ao17 t735.length co17 : Value).ownBlock) ∧ some k_ ≠ (.slice Ao26 t743.length co26 : Value).ownBlock) ∧ some k_ ≠ (.slice Ao32 t747.length co32 : Value).ownBlock)) (n := t738.length) (c := co20) ?_).2.2; exact (by (with_reducible repeat (first | apply Kd.R_alloc | apply Kd.R_drewN | apply Kd.R_drew)); exact (Kd.R_mono (R_same_ (Kd.R_far (p := ⟨gb751, 0, none⟩) (Kd.R_types HO740.out BK751.out (by decide)) (fun _ hk => hk.2) (.slice Ao32 t747.length co32)) rfl) (fun _ h_ => h_.1)))); (case side4 => exact (Kd.R_reads' HO740.out).2.1); rintro e w54 ⟨rfl, hb⟩; refine ⟨_, rfl, ?_⟩; have n0_ := Aside0.mk (Kd.R_below (by (with_reducible repeat (first | apply Kd.R_alloc | apply Kd.R_drewN | apply Kd.R_drew)); exact (Kd.R_mono (R_same_ (Kd.R_far (p := ⟨gb751, 0, none⟩) (Kd.R_types HO737.out BK751.out (by decide)) (fun _ hk => hk.2) (.slice Ao32 t747.length co32)) rfl) (fun _ h_ => h_.1))) hb); have n1_ := Aside0.mk (Kd.R_below (by (with_reducible repeat (first | apply Kd.R_alloc | apply Kd.R_drewN | apply Kd.R_drew)); exact (Kd.R_mono (R_same_ (Kd.R_far (p := ⟨gb751, 0, none⟩) (Kd.R_types HO740.out BK751.out (by decide)) (fun _ hk => hk.2) (.slice Ao32 t747.length co32)) rfl) (fun _ h_ => h_.1))) hb); have n2_ := Aside0.mk (Kd.R_below (by (with_reducible repeat (first | apply Kd.R_alloc | apply Kd.R_drewN | apply Kd.R_drew)); exact (Kd.R_mono (R_same_ (Kd.R_far (p := ⟨gb751, 0, none⟩) (Kd.R_types HO745.out BK751.out (by decide)) (fun _ hk => hk.2) (.slice Ao32 t747.length co32)) rfl) (fun _ h_ => h_.1))) hb); have n3_ := Aside0.mk (Kd.R_below (by (with_reducible repeat (first | apply Kd.R_alloc | apply Kd.R_drewN | apply Kd.R_drew)); exact (Kd.R_mono (R_same_ (Kd.R_far (p := ⟨gb751, 0, none⟩) (Kd.R_types HO749.out BK751.out (by decide)) (fun _ hk => hk.2) (.slice Ao32 t747.length co32)) rfl) (fun _ h_ => h_.1))) hb); have n4_ := Aside0.mk (blk_below (g := gb733) (o := .cells #[.slice A0_0 l0_0.length c0_0] 24 (0, 0)) (by (with_reducible repeat (first | refine blk_drewN ?_ _ | refine blk_drew ?_ | refine blk_alloc ?_ _)); refine blk_far ?_ NB733_751.out _; (with_reducible repeat (first | refine blk_drewN ?_ _ | refine blk_drew ?_ | refine blk_alloc ?_ _)); exact BK733.out) hb); have n5_ := Aside0.mk (blk_below (g := gb742) (o := .cells #[.slice Ao20 t738.length co20] 30 (0, 0)) (by (with_reducible repeat (first | refine blk_drewN ?_ _ | refine blk_drew ?_ | refine blk_alloc ?_ _)); refine blk_far ?_ NB742_751.out _; (with_reducible repeat (first | refine blk_drewN ?_ _ | refine blk_drew ?_ | refine blk_alloc ?_ _)); exact BK742.out) hb); have n6_ := Aside0.mk (blk_below (g := gb746) (o := .cells #[.slice Ao26 t743.length co26] 30 (0, 0)) (by (with_reducible repeat (first | refine blk_drewN ?_ _ | refine blk_drew ?_ | refine blk_alloc ?_ _)); refine blk_far ?_ NB746_751.out _; (with_reducible repeat (first | refine blk_drewN ?_ _ | refine blk_drew ?_ | refine blk_alloc ?_ _)); exact BK746.out) hb); have n7_ := Aside0.mk (blk_below (g := gb751) (o := .cells #[.slice Ao32 t747.length co32] 30 (0, 0)) (by (with_reducible repeat (first | refine blk_drewN ?_ _ | refine blk_drew ?_ | refine blk_alloc ?_ _)); refine blk_put (cs := #[.slice none 0 0]) ?_ 0 _ rfl; (with_reducible repeat (first | refine blk_drewN ?_ _ | refine blk_drew ?_ | refine blk_alloc ?_ _)); exact BK751.out) hb); have n8_ := Aside0.mk (below_step (by repeat (first | (with_reducible first | exact HB.out | apply below_alloc | apply pw_below_drewN | apply below_drew1 | refine below_set ?_ GE733.out | refine below_set ?_ GE742.out | refine below_set ?_ GE746.out | refine below_set ?_ GE751.out) | exact HB.out)) hb); clear HO737; clear HO740; clear HO745; clear HO749; clear BK733; clear BK742; clear BK746; clear BK751; clear HB; have HO737 := n0_; have HO740 := n1_; have HO745 := n2_; have HO749 := n3_; have BK733 := n4_; have BK742 := n5_; have BK746 := n6_; have BK751 := n7_; have HB := n8_; clear n0_ n1_ n2_ n3_ n4_ n5_ n6_ n7_ n8_; (try clear hb); (try clear hb2); (try clear hk); (try clear hi)))
        go_meet
        case rel => exact ⟨_, (true), (by first | rfl | (simp; done) | (simp [*]; done)), H', ⟨by first | omega | exact Nat.le_refl _⟩, ⟨by (with_reducible repeat (first | apply Kd.R_alloc | apply Kd.R_drewN | apply Kd.R_drew)); exact Kd.R_mono HO740.out (fun _ hk => ⟨hk.1.2, hk.2⟩)⟩, ⟨by (with_reducible repeat (first | apply Kd.R_alloc | apply Kd.R_drewN | apply Kd.R_drew)); exact Kd.R_mono HO745.out (fun _ hk => ⟨hk.1.2, hk.2⟩)⟩, ⟨by (with_reducible repeat (first | apply Kd.R_alloc | apply Kd.R_drewN | apply Kd.R_drew)); exact Kd.R_mono HO749.out (fun _ hk => ⟨hk.1.2, hk.2⟩)⟩, ⟨by (with_reducible repeat (first | refine blk_drewN ?_ _ | refine blk_drew ?_ | refine blk_alloc ?_ _)); exact BK733.out⟩, ⟨by (with_reducible repeat (first | refine blk_drewN ?_ _ | refine blk_drew ?_ | refine blk_alloc ?_ _)); exact BK742.out⟩, ⟨by (with_reducible repeat (first | refine blk_drewN ?_ _ | refine blk_drew ?_ | refine blk_alloc ?_ _)); exact BK746.out⟩, ⟨by (with_reducible repeat (first | refine blk_drewN ?_ _ | refine blk_drew ?_ | refine blk_alloc ?_ _)); exact BK751.out⟩, ⟨by repeat (first | (with_reducible first | exact HB.out | apply below_alloc | apply pw_below_drewN | apply below_drew1 | refine below_set ?_ GE733.out | refine below_set ?_ GE742.out | refine below_set ?_ GE746.out | refine below_set ?_ GE751.out) | exact HB.out)⟩⟩
    case rest =>
      clear HC11
      try clear c1
      try clear c2
      try clear p2
      try clear c3
      try clear c3b0
      try clear c4
      try clear c5
      try clear c12
      try clear c15
      try clear c17
      try clear c19
      try clear c21
      try clear c27
      try clear c28
      try clear c33
      try clear c34
      try clear c35
      try clear c38
      try clear c39
      try clear c40
      try clear c41
      try clear c42
      try clear c43
      try clear c44
      try clear c47
      try clear c48
      try clear c49
      try clear c51
      try clear c52
      try clear hcz13_0
      try clear hcz15_0
      try clear hcz22_0
      try clear hcz23_0
      try clear hcz29_0
      try clear hcz36_0
      try clear hcz42_0
      try clear hcz45_0
      try clear hcz50_0
      try clear hcz53_0
      try clear hcz5_0
      try clear hfz13_0
      try clear hfz15_0
      try clear hfz22_0
      try clear hfz23_0
      try clear hfz29_0
      try clear hfz36_0
      try clear hfz42_0
      try clear hfz45_0
      try clear hfz50_0
      try clear hfz53_0
      try clear hfz5_0
      obtain ⟨kq, x40_10, rfl, HA, HJ10, HO_743000, HO_747000, HO_752000, BK733, BK742, BK746, BK751, HB⟩ := hcut
      cases kq with
      | zero => exact absurd HA.out (by simp [laws_FnExactFirstWords.j0])
      | succ kj10 =>
        have H := HA.out
        clear HA
        simp only [laws_FnExactFirstWords.j0] at H
        by_cases c55 : x40_10 = true
        · subst c55
          have H1 : (some false) = some r := by rw [if_pos rfl] at H; exact H
          clear H
          have H := H1
          clear H1
          obtain rfl := Option.some.inj H
          go_wp2
          go_ret
          exact ⟨by first | rfl | (simp [errW_none, errW_some] <;> rfl) | (simp [*, errW_none, errW_some] <;> rfl), by repeat (first | (with_reducible first | exact HB.out | apply below_alloc | apply pw_below_drewN | apply below_drew1 | refine below_set ?_ GE733.out | refine below_set ?_ GE742.out | refine below_set ?_ GE746.out | refine below_set ?_ GE751.out) | exact HB.out)⟩
        · replace c55 := Bool.eq_false_iff.mpr c55
          subst c55
          have H1 : ((laws_toTrie.f kj10 l0_0).bind fun t753 => ((laws_eqTrie.f kj10 t743 t753).bind fun t756 => (if t756 = true then ((laws_markTrie.f kj10 t743 1).bind fun bt757 => (if bt757.1 < 0 then (laws_FnExactFirstWords.j1 kj10 t741 true l0_0 t738 t747) else ((laws_eqTrie.f kj10 t747 t738).bind fun t759 => (if t759 = true then (laws_FnExactFirstWords.j1 kj10 t741 (t750 != t741) l0_0 t738 t747) else (laws_FnExactFirstWords.j1 kj10 t741 true l0_0 t738 t747))))) else (some false)))) = some r := by rw [if_neg (show ¬ (false = true) by decide)] at H; exact H
          clear H
          have H := H1
          clear H1
          replace H := Option.bind_eq_some_iff.mp H
          obtain ⟨t753, A560, H⟩ := H
          replace H : ((laws_eqTrie.f kj10 t743 t753).bind fun t756 => (if t756 = true then ((laws_markTrie.f kj10 t743 1).bind fun bt757 => (if bt757.1 < 0 then (laws_FnExactFirstWords.j1 kj10 t741 true l0_0 t738 t747) else ((laws_eqTrie.f kj10 t747 t738).bind fun t759 => (if t759 = true then (laws_FnExactFirstWords.j1 kj10 t741 (t750 != t741) l0_0 t738 t747) else (laws_FnExactFirstWords.j1 kj10 t741 true l0_0 t738 t747))))) else (some false))) = some r := H
          have A56 := Aside0.mk A560
          clear A560
          replace H := Option.bind_eq_some_iff.mp H
          obtain ⟨t756, A570, H⟩ := H
          replace H : (if t756 = true then ((laws_markTrie.f kj10 t743 1).bind fun bt757 => (if bt757.1 < 0 then (laws_FnExactFirstWords.j1 kj10 t741 true l0_0 t738 t747) else ((laws_eqTrie.f kj10 t747 t738).bind fun t759 => (if t759 = true then (laws_FnExactFirstWords.j1 kj10 t741 (t750 != t741) l0_0 t738 t747) else (laws_FnExactFirstWords.j1 kj10 t741 true l0_0 t738 t747))))) else (some false)) = some r := H
          have A57 := Aside0.mk A570
          clear A570
          by_cases c58 : t756 = true
          · subst c58
            have H1 : ((laws_markTrie.f kj10 t743 1).bind fun bt757 => (if bt757.1 < 0 then (laws_FnExactFirstWords.j1 kj10 t741 true l0_0 t738 t747) else ((laws_eqTrie.f kj10 t747 t738).bind fun t759 => (if t759 = true then (laws_FnExactFirstWords.j1 kj10 t741 (t750 != t741) l0_0 t738 t747) else (laws_FnExactFirstWords.j1 kj10 t741 true l0_0 t738 t747))))) = some r := by rw [if_pos rfl] at H; exact H
            clear H
            have H := H1
            clear H1
            replace H := Option.bind_eq_some_iff.mp H
            obtain ⟨⟨t757, t758⟩, A590, H⟩ := H
            replace H : (if t757 < 0 then (laws_FnExactFirstWords.j1 kj10 t741 true l0_0 t738 t747) else ((laws_eqTrie.f kj10 t747 t738).bind fun t759 => (if t759 = true then (laws_FnExactFirstWords.j1 kj10 t741 (t750 != t741) l0_0 t738 t747) else (laws_FnExactFirstWords.j1 kj10 t741 true l0_0 t738 t747)))) = some r := H
            have A59 := Aside0.mk A590
            clear A590
            have HC60 := Aside0.mk H
            clear H
            try go_wp2
            have n0_ := Aside0.mk (Kd.R_drew HO_743000.out)
            have n1_ := Aside0.mk (Kd.R_drew HO_747000.out)
            have n2_ := Aside0.mk (Kd.R_drew HO_752000.out)
            have n3_ := Aside0.mk (blk_drew BK733.out)
            have n4_ := Aside0.mk (blk_drew BK742.out)
            have n5_ := Aside0.mk (blk_drew BK746.out)
            have n6_ := Aside0.mk (blk_drew BK751.out)
            have n7_ := Aside0.mk (below_drew1 HB.out)
            clear HO_743000
            clear HO_747000
            clear HO_752000
            clear BK733
            clear BK742
            clear BK746
            clear BK751
            clear HB
            have HO_743000 := n0_
            have HO_747000 := n1_
            have HO_752000 := n2_
            have BK733 := n3_
            have BK742 := n4_
            have BK746 := n5_
            have BK751 := n6_
            have HB := n7_
            clear n0_ n1_ n2_ n3_ n4_ n5_ n6_ n7_
            refine start_ (n := 5) (S := fun w' => w'.cell? ⟨gb746, 0, none⟩ = some (.slice Ao26 t743.length co26) ∧ w'.cell? ⟨gb733, 0, none⟩ = some (.slice A0_0 l0_0.length c0_0)) (ds := []) #[false, false, false, false, false] (by kernel_rfl) rfl rfl ⟨(blk_cell BK746.out 0).trans rfl, (blk_cell BK733.out 0).trans rfl⟩ (fun hHeld => ?_)
            generalize wc.drew = w61 at HO_743000 HO_747000 HO_752000 BK733 BK742 BK746 BK751 HB hHeld ⊢
            refine take_ (i := 0) (N := some 41) (v := ?_) (a' := ?_) #[true, false, false, false, false] rfl rfl (by kernel_rfl) (fun _ _ _ h => h) (Or.inl ⟨by rfl, ?_⟩) hHeld ?_ ?_
            rotate_left
            · rintro w' ⟨s0, s1⟩
              go_simp
              with_reducible rfl
            rotate_left
            · simp only [Act.put, List.setIfInBounds_toArray, List.set_cons_zero, List.set_cons_succ, i64_w, i32_w]
              rfl
            refine take_ (i := 1) (N := some 42) (v := ?_) (a' := ?_) #[true, true, false, false, false] rfl rfl (by kernel_rfl) (fun _ _ _ h => h) (Or.inl ⟨by rfl, ?_⟩) hHeld ?_ ?_
            rotate_left
            · rintro w' ⟨s0, s1⟩
              go_simp
              with_reducible rfl
            rotate_left
            · simp only [Act.put, List.setIfInBounds_toArray, List.set_cons_zero, List.set_cons_succ, i64_w, i32_w]
              rfl
            refine one_ (i := 2) (N := some 43) #[true, true, true, false, false] rfl rfl (by kernel_rfl) (by decide) (fun K hK => ?_)
            refine goes_ Try.func17 (by kernel_rfl) rfl #[.agg #[.slice A0_0 l0_0.length c0_0]] (by rfl) rfl rfl (by (try simp only [List.map_toArray, List.map_cons, List.map_nil]); first | done | rfl | (simp only [List.length_drop, List.length_take]; rfl)) ?_
            with_reducible refine (laws_toTrie.calls kj10 _ _ l0_0 t753 _ ?side1 ?side2 A56.out).mono ?_
            (case side1 => repeat (first | exact (Kd.C_below HR0_0.out HB.out) | (with_reducible refine Kd.C_alloc ?_ _) | (with_reducible refine Kd.C_drewN ?_ _) | (with_reducible refine Kd.C_drew ?_)))
            (case side2 => exact HC0_0.out)
            rintro e w62 ⟨v754, rfl, ho0, hb⟩
            refine ⟨_, rfl, ?_⟩
            have n0_ := Aside0.mk (Kd.R_elder' (by (with_reducible repeat (first | apply Kd.R_alloc | apply Kd.R_drewN | apply Kd.R_drew)); exact HO_743000.out) (Kd.R_base ho0) hb)
            have n1_ := Aside0.mk (Kd.R_elder' (by (with_reducible repeat (first | apply Kd.R_alloc | apply Kd.R_drewN | apply Kd.R_drew)); exact HO_747000.out) (Kd.R_base ho0) hb)
            have n2_ := Aside0.mk (Kd.R_elder' (by (with_reducible repeat (first | apply Kd.R_alloc | apply Kd.R_drewN | apply Kd.R_drew)); exact HO_752000.out) (Kd.R_base ho0) hb)
            have n3_ := Aside0.mk (Kd.R_lower (Kd.R_new' (Kd.R_new' (Kd.R_new' ho0 (Kd.R_lt (by (with_reducible repeat (first | apply Kd.R_alloc | apply Kd.R_drewN | apply Kd.R_drew)); exact HO_743000.out))) (Kd.R_lt (by (with_reducible repeat (first | apply Kd.R_alloc | apply Kd.R_drewN | apply Kd.R_drew)); exact HO_747000.out))) (Kd.R_lt (by (with_reducible repeat (first | apply Kd.R_alloc | apply Kd.R_drewN | apply Kd.R_drew)); exact HO_752000.out))) (below_size (by repeat (first | (with_reducible first | exact HB.out | apply below_alloc | apply pw_below_drewN | apply below_drew1 | refine below_set ?_ GE733.out | refine below_set ?_ GE742.out | refine below_set ?_ GE746.out | refine below_set ?_ GE751.out) | exact HB.out))))
            have n4_ := Aside0.mk (blk_below (g := gb733) (o := .cells #[.slice A0_0 l0_0.length c0_0] 24 (0, 0)) (by (with_reducible repeat (first | refine blk_drewN ?_ _ | refine blk_drew ?_ | refine blk_alloc ?_ _)); exact BK733.out) hb)
            have n5_ := Aside0.mk (blk_below (g := gb742) (o := .cells #[.slice Ao20 t738.length co20] 30 (0, 0)) (by (with_reducible repeat (first | refine blk_drewN ?_ _ | refine blk_drew ?_ | refine blk_alloc ?_ _)); exact BK742.out) hb)
            have n6_ := Aside0.mk (blk_below (g := gb746) (o := .cells #[.slice Ao26 t743.length co26] 30 (0, 0)) (by (with_reducible repeat (first | refine blk_drewN ?_ _ | refine blk_drew ?_ | refine blk_alloc ?_ _)); exact BK746.out) hb)
            have n7_ := Aside0.mk (blk_below (g := gb751) (o := .cells #[.slice Ao32 t747.length co32] 30 (0, 0)) (by (with_reducible repeat (first | refine blk_drewN ?_ _ | refine blk_drew ?_ | refine blk_alloc ?_ _)); exact BK751.out) hb)
            have n8_ := Aside0.mk (below_step (by repeat (first | (with_reducible first | exact HB.out | apply below_alloc | apply pw_below_drewN | apply below_drew1 | refine below_set ?_ GE733.out | refine below_set ?_ GE742.out | refine below_set ?_ GE746.out | refine below_set ?_ GE751.out) | exact HB.out)) hb)
            clear HO_743000
            clear HO_747000
            clear HO_752000
            clear BK733
            clear BK742
            clear BK746
            clear BK751
            clear HB
            have HO_743000 := n0_
            have HO_747000 := n1_
            have HO_752000 := n2_
            have HO755 := n3_
            have BK733 := n4_
            have BK742 := n5_
            have BK746 := n6_
            have BK751 := n7_
            have HB := n8_
            clear n0_ n1_ n2_ n3_ n4_ n5_ n6_ n7_ n8_
            (try clear hb)
            (try clear hb2)
            (try clear hk)
            (try clear hi)
            (try clear ho0)
            obtain ⟨Ao63, co63, eo63⟩ := Kd.R_slice HO755.out
            (first | subst eo63 | (injection eo63 with f1_ f2_ f3_; have f4_ := f1_.symm; have f5_ := f3_.symm; clear f1_ f2_ f3_; subst f4_; subst f5_))
            refine hK.out _ _ ⟨(blk_cell BK746.out 0).trans rfl, (blk_cell BK733.out 0).trans rfl⟩ (fun hHeld => ?_)
            clear hK K
            refine norm_ (a' := ?_) ?_ ?_
            rotate_left
            · show Act.put _ (some 43) _ = _
              simp only [Act.put, List.setIfInBounds_toArray, List.set_cons_zero, List.set_cons_succ, i64_w, i32_w]
              rfl
            refine one_ (i := 3) (N := some 44) #[true, true, true, true, false] rfl rfl (by kernel_rfl) (by decide) (fun K hK => ?_)
            refine goes_ Try.func19 (by kernel_rfl) rfl #[.agg #[.slice Ao26 t743.length co26], .agg #[.slice Ao63 t753.length co63]] (by rfl) rfl rfl (by (try simp only [List.map_toArray, List.map_cons, List.map_nil]); first | done | rfl | (simp only [List.length_drop, List.length_take]; rfl)) ?_
            with_reducible refine (laws_eqTrie.calls kj10 _ _ t743 _ _ t753 true _ ?side1 ?side2 ?side3 ?side4 A57.out).mono ?_
            (case side1 => repeat (first | exact (Kd.R_reads' HO_747000.out).2.2 | (with_reducible refine Kd.C_alloc ?_ _) | (with_reducible refine Kd.C_drewN ?_ _) | (with_reducible refine Kd.C_drew ?_)))
            (case side2 => exact (Kd.R_reads' HO_747000.out).2.1)
            (case side3 => repeat (first | exact (Kd.R_reads' HO755.out).2.2 | (with_reducible refine Kd.C_alloc ?_ _) | (with_reducible refine Kd.C_drewN ?_ _) | (with_reducible refine Kd.C_drew ?_)))
            (case side4 => exact (Kd.R_reads' HO755.out).2.1)
            rintro e w64 ⟨rfl, hb⟩
            refine ⟨_, rfl, ?_⟩
            have n0_ := Aside0.mk (Kd.R_below (by (with_reducible repeat (first | apply Kd.R_alloc | apply Kd.R_drewN | apply Kd.R_drew)); exact HO_743000.out) hb)
            have n1_ := Aside0.mk (Kd.R_below (by (with_reducible repeat (first | apply Kd.R_alloc | apply Kd.R_drewN | apply Kd.R_drew)); exact HO_747000.out) hb)
            have n2_ := Aside0.mk (Kd.R_below (by (with_reducible repeat (first | apply Kd.R_alloc | apply Kd.R_drewN | apply Kd.R_drew)); exact HO_752000.out) hb)
            have n3_ := Aside0.mk (Kd.R_below (by (with_reducible repeat (first | apply Kd.R_alloc | apply Kd.R_drewN | apply Kd.R_drew)); exact HO755.out) hb)
            have n4_ := Aside0.mk (blk_below (g := gb733) (o := .cells #[.slice A0_0 l0_0.length c0_0] 24 (0, 0)) (by (with_reducible repeat (first | refine blk_drewN ?_ _ | refine blk_drew ?_ | refine blk_alloc ?_ _)); exact BK733.out) hb)
            have n5_ := Aside0.mk (blk_below (g := gb742) (o := .cells #[.slice Ao20 t738.length co20] 30 (0, 0)) (by (with_reducible repeat (first | refine blk_drewN ?_ _ | refine blk_drew ?_ | refine blk_alloc ?_ _)); exact BK742.out) hb)
            have n6_ := Aside0.mk (blk_below (g := gb746) (o := .cells #[.slice Ao26 t743.length co26] 30 (0, 0)) (by (with_reducible repeat (first | refine blk_drewN ?_ _ | refine blk_drew ?_ | refine blk_alloc ?_ _)); exact BK746.out) hb)
            have n7_ := Aside0.mk (blk_below (g := gb751) (o := .cells #[.slice Ao32 t747.length co32] 30 (0, 0)) (by (with_reducible repeat (first | refine blk_drewN ?_ _ | refine blk_drew ?_ | refine blk_alloc ?_ _)); exact BK751.out) hb)
            have n8_ := Aside0.mk (below_step (by repeat (first | (with_reducible first | exact HB.out | apply below_alloc | apply pw_below_drewN | apply below_drew1 | refine below_set ?_ GE733.out | refine below_set ?_ GE742.out | refine below_set ?_ GE746.out | refine below_set ?_ GE751.out) | exact HB.out)) hb)
            clear HO_743000
            clear HO_747000
            clear HO_752000
            clear HO755
            clear BK733
            clear BK742
            clear BK746
            clear BK751
            clear HB
            have HO_743000 := n0_
            have HO_747000 := n1_
            have HO_752000 := n2_
            have HO755 := n3_
            have BK733 := n4_
            have BK742 := n5_
            have BK746 := n6_
            have BK751 := n7_
            have HB := n8_
            clear n0_ n1_ n2_ n3_ n4_ n5_ n6_ n7_ n8_
            (try clear hb)
            (try clear hb2)
            (try clear hk)
            (try clear hi)
            refine hK.out _ _ ⟨(blk_cell BK746.out 0).trans rfl, (blk_cell BK733.out 0).trans rfl⟩ (fun hHeld => ?_)
            clear hK K
            refine norm_ (a' := ?_) ?_ ?_
            rotate_left
            · show Act.put _ (some 44) _ = _
              simp only [Act.put, List.setIfInBounds_toArray, List.set_cons_zero, List.set_cons_succ, i64_w, i32_w]
              rfl
            refine pure_ (i := 4) (N := some 45) (v := ?_) (a' := ?_) #[true, true, true, true, true] rfl rfl (by kernel_rfl) (fun _ _ _ h => h) (Or.inl ⟨by rfl, ?_⟩) ?_ ?_
            rotate_left
            · intro w'
              go_simp
              with_reducible rfl
            rotate_left
            · simp only [Act.put, List.setIfInBounds_toArray, List.set_cons_zero, List.set_cons_succ, i64_w, i32_w]
              rfl
            refine done_ (by kernel_rfl) ?_
            have hnb65 := NB746_733.out
            have hnc65 := NB733_746.out
            have hnb66 := NB746_742.out
            have hnc66 := NB742_746.out
            have hnb67 := NB746_751.out
            have hnc67 := NB751_746.out
            have hcz68_0 : w64.cell? ⟨gb746, 0, none⟩ = some (.slice Ao26 t743.length co26) := (blk_cell BK746.out 0).trans rfl
            have hfz68_0 := blk_frozen BK746.out 0
            go_upto_region 14 with (first | ((with_reducible refine gate_callee (f := 33) rfl ?_); refine goesL_ (some 48) rfl rfl Try.func33 (by kernel_rfl) rfl #[.agg #[.slice Ao26 t743.length co26], .int .i64 1] rfl (by (try simp only [List.map_toArray, List.map_cons, List.map_nil]); first | done | rfl | (simp only [List.length_drop, List.length_take]; rfl)) ?_; (with_reducible refine (laws_markTrie.calls kj10 (fun k_ => some k_ = (.slice Ao26 t743.length co26 : Value).ownBlock) (.slice Ao26 t743.length co26) t743 1 t757 t758 w _ ?side1 ?side2 A59.out).mono ?_); (case side1 => repeat (first | (with_reducible first | exact HB.out | apply below_alloc | apply pw_below_drewN | apply below_drew1 | refine below_set ?_ GE733.out | refine below_set ?_ GE742.out | refine below_set ?_ GE746.out | refine below_set ?_ GE751.out) | exact HB.out)); (case side2 => exact Kd.R_tight rfl HO_747000.out); rintro e w69 ⟨rfl, hy0, hb, hkp⟩; refine ⟨_, rfl, ?_⟩; have n0_ := Aside0.mk (Kd.R_mono (ok' := fun k_ => some k_ ≠ (.slice Ao26 t743.length co26 : Value).ownBlock ∧ some k_ ≠ (.slice Ao32 t747.length co32 : Value).ownBlock ∧ some k_ ≠ (.slice Ao63 t753.length co63 : Value).ownBlock) (Kd.R_keptB (HO_743000.out) hkp (fun k_ hk_ hs_ => (hk_.1.1) hs_)) (fun k_ hk_ => ⟨hk_.1.1.1, hk_.1.1.2, hk_.1.2⟩)); have n1_ := Aside0.mk (Kd.R_reok rfl hy0 (fun k_ e_ => HO_747000.out.1 k_ e_)); have n2_ := Aside0.mk (Kd.R_mono (ok' := fun k_ => some k_ ≠ (.slice Ao20 t738.length co20 : Value).ownBlock ∧ some k_ ≠ (.slice Ao26 t743.length co26 : Value).ownBlock ∧ some k_ ≠ (.slice Ao63 t753.length co63 : Value).ownBlock) (Kd.R_keptB (HO_752000.out) hkp (fun k_ hk_ hs_ => (hk_.1.2) hs_)) (fun k_ hk_ => ⟨hk_.1.1.1, hk_.1.1.2, hk_.1.2⟩)); have n3_ := Aside0.mk (blk_kept (by (with_reducible repeat (first | refine blk_drewN ?_ _ | refine blk_drew ?_ | refine blk_alloc ?_ _)); exact BK733.out) hkp (fun hs_ => (fun e_ => (Kd.R_ne HO_747000.out BK733.out (by decide)) e_) hs_)); have n4_ := Aside0.mk (blk_kept (by (with_reducible repeat (first | refine blk_drewN ?_ _ | refine blk_drew ?_ | refine blk_alloc ?_ _)); exact BK742.out) hkp (fun hs_ => (fun e_ => (Kd.R_ne HO_747000.out BK742.out (by decide)) e_) hs_)); have n5_ := Aside0.mk (blk_kept (by (with_reducible repeat (first | refine blk_drewN ?_ _ | refine blk_drew ?_ | refine blk_alloc ?_ _)); exact BK746.out) hkp (fun hs_ => (fun e_ => (Kd.R_ne HO_747000.out BK746.out (by decide)) e_) hs_)); have n6_ := Aside0.mk (blk_kept (by (with_reducible repeat (first | refine blk_drewN ?_ _ | refine blk_drew ?_ | refine blk_alloc ?_ _)); exact BK751.out) hkp (fun hs_ => (fun e_ => (Kd.R_ne HO_747000.out BK751.out (by decide)) e_) hs_)); have n7_ := Aside0.mk (Kd.R_mono (ok' := fun k_ => some k_ ≠ (.slice Ao20 t738.length co20 : Value).ownBlock ∧ some k_ ≠ (.slice Ao26 t743.length co26 : Value).ownBlock ∧ some k_ ≠ (.slice Ao32 t747.length co32 : Value).ownBlock) (Kd.R_keptB (HO755.out) hkp (fun k_ hk_ hs_ => (hk_.1.2) hs_)) (fun k_ hk_ => ⟨hk_.1.1.1.2, hk_.1.1.2, hk_.1.2⟩)); have n8_ := Aside0.mk (hb); clear HO_743000; clear HO_747000; clear HO_752000; clear BK733; clear BK742; clear BK746; clear BK751; clear HO755; clear HB; have HO_743000 := n0_; have HO_747000 := n1_; have HO_752000 := n2_; have BK733 := n3_; have BK742 := n4_; have BK746 := n5_; have BK751 := n6_; have HO755 := n7_; have HB := n8_; clear n0_ n1_ n2_ n3_ n4_ n5_ n6_ n7_ n8_; (try clear hb); (try clear hkp); (try clear hy0)))
            (try simp only [Act.put, List.setIfInBounds_toArray, List.set_cons_zero, List.set_cons_succ])
            go_cut [61] (fun v61 wc => ∃ (kq : Nat) (x61_59 : Bool), v61 = .bool x61_59 ∧ Aside0 (laws_FnExactFirstWords.j1 kq t741 x61_59 l0_0 t738 t747 = some r) ∧ Aside0 (kq ≤ kj10) ∧ Aside0 (Kd.R k86 86 wc w.heap.size (fun k_ => some k_ ≠ ((.slice Ao26 t743.length co26) : Value).ownBlock ∧ some k_ ≠ ((.slice Ao32 t747.length co32) : Value).ownBlock) (.slice Ao20 t738.length co20) t738) ∧ Aside0 (Kd.R k86 86 wc w.heap.size (fun k_ => some k_ ≠ ((.slice Ao20 t738.length co20) : Value).ownBlock ∧ some k_ ≠ ((.slice Ao32 t747.length co32) : Value).ownBlock) (.slice Ao26 t743.length co26) t758) ∧ Aside0 (Kd.R k86 86 wc w.heap.size (fun k_ => some k_ ≠ ((.slice Ao20 t738.length co20) : Value).ownBlock ∧ some k_ ≠ ((.slice Ao26 t743.length co26) : Value).ownBlock) (.slice Ao32 t747.length co32) t747) ∧ Aside0 (wc.heap[gb733]? = some (.cells #[(.slice A0_0 l0_0.length c0_0)] 24 (0, 0))) ∧ Aside0 (wc.heap[gb742]? = some (.cells #[(.slice Ao20 t738.length co20)] 30 (0, 0))) ∧ Aside0 (wc.heap[gb746]? = some (.cells #[(.slice Ao26 t743.length co26)] 30 (0, 0))) ∧ Aside0 (wc.heap[gb751]? = some (.cells #[(.slice Ao32 t747.length co32)] 30 (0, 0))) ∧ Aside0 (Below w.heap.size w wc))
            case first =>
              have H := HC60.out
              clear HC60
              by_cases c70 : t757 < 0
              · rw [if_pos c70] at H
                have c70b0 : decide (t757 < 0) = true := decide_eq_true c70
                clear c70
                (first | rw [c70b0] | (simp only [i64_w, i32_w]; rw [c70b0]) | skip)
                have H' := Aside0.mk H
                clear H
                go_wp2
                go_meet
                case rel => exact ⟨_, (true), (by first | rfl | (simp; done) | (simp [*]; done)), H', ⟨by have := HJ10.out; first | omega | exact Nat.le_refl _⟩, ⟨by (with_reducible repeat (first | apply Kd.R_alloc | apply Kd.R_drewN | apply Kd.R_drew)); exact Kd.R_mono HO_743000.out (fun _ hk => ⟨hk.1, hk.2.1⟩)⟩, ⟨by (with_reducible repeat (first | apply Kd.R_alloc | apply Kd.R_drewN | apply Kd.R_drew)); exact Kd.R_mono HO_747000.out (fun _ hk => ⟨hk.1.1, hk.1.2⟩)⟩, ⟨by (with_reducible repeat (first | apply Kd.R_alloc | apply Kd.R_drewN | apply Kd.R_drew)); exact Kd.R_mono HO_752000.out (fun _ hk => ⟨hk.1, hk.2.1⟩)⟩, ⟨by (with_reducible repeat (first | refine blk_drewN ?_ _ | refine blk_drew ?_ | refine blk_alloc ?_ _)); exact BK733.out⟩, ⟨by (with_reducible repeat (first | refine blk_drewN ?_ _ | refine blk_drew ?_ | refine blk_alloc ?_ _)); exact BK742.out⟩, ⟨by (with_reducible repeat (first | refine blk_drewN ?_ _ | refine blk_drew ?_ | refine blk_alloc ?_ _)); exact BK746.out⟩, ⟨by (with_reducible repeat (first | refine blk_drewN ?_ _ | refine blk_drew ?_ | refine blk_alloc ?_ _)); exact BK751.out⟩, ⟨by repeat (first | (with_reducible first | exact HB.out | apply below_alloc | apply pw_below_drewN | apply below_drew1 | refine below_set ?_ GE733.out | refine below_set ?_ GE742.out | refine below_set ?_ GE746.out | refine below_set ?_ GE751.out) | exact HB.out)⟩⟩
              · rw [if_neg c70] at H
                have c70b0 : decide (t757 < 0) = false := decide_eq_false c70
                clear c70
                (first | rw [c70b0] | (simp only [i64_w, i32_w]; rw [c70b0]) | skip)
                replace H := Option.bind_eq_some_iff.mp H
                obtain ⟨t759, A710, H⟩ := H
                replace H : (if t759 = true then (laws_FnExactFirstWords.j1 kj10 t741 (t750 != t741) l0_0 t738 t747) else (laws_FnExactFirstWords.j1 kj10 t741 true l0_0 t738 t747)) = some r := H
                have A71 := Aside0.mk A710
                clear A710
                by_cases c72 : t759 = true
                · subst c72
                  have H1 : (laws_FnExactFirstWords.j1 kj10 t741 (t750 != t741) l0_0 t738 t747) = some r := by rw [if_pos rfl] at H; exact H
                  clear H
                  have H := H1
                  clear H1
                  have H' := Aside0.mk H
                  clear H
                  have hnb73 := NB751_733.out
                  have hnc73 := NB733_751.out
                  have hnb74 := NB751_742.out
                  have hnc74 := NB742_751.out
                  have hnb75 := NB751_746.out
                  have hnc75 := NB746_751.out
                  have hcz76_0 : w69.cell? ⟨gb751, 0, none⟩ = some (.slice Ao32 t747.length co32) := (blk_cell BK751.out 0).trans rfl
                  have hfz76_0 := blk_frozen BK751.out 0
                  have hnb77 := NB742_733.out
                  have hnc77 := NB733_742.out
                  have hnb78 := NB742_746.out
                  have hnc78 := NB746_742.out
                  have hcz79_0 : w69.cell? ⟨gb742, 0, none⟩ = some (.slice Ao20 t738.length co20) := (blk_cell BK742.out 0).trans rfl
                  have hfz79_0 := blk_frozen BK742.out 0
                  go_wp2_with (first | (go_at_call 19; (with_reducible refine (laws_eqTrie.calls kj10 _ _ t747 _ _ t738 true _ ?side1 ?side2 ?side3 ?side4 A71.out).mono ?_); (case side1 => repeat (first | exact (Kd.R_reads' HO_752000.out).2.2 | (with_reducible refine Kd.C_alloc ?_ _) | (with_reducible refine Kd.C_drewN ?_ _) | (with_reducible refine Kd.C_drew ?_))); (case side2 => exact (Kd.R_reads' HO_752000.out).2.1); (case side3 => repeat (first | exact (Kd.R_reads' HO_743000.out).2.2 | (with_reducible refine Kd.C_alloc ?_ _) | (with_reducible refine Kd.C_drewN ?_ _) | (with_reducible refine Kd.C_drew ?_))); (case side4 => exact (Kd.R_reads' HO_743000.out).2.1); rintro e w80 ⟨rfl, hb⟩; have n0_ := Aside0.mk (Kd.R_below (by (with_reducible repeat (first | apply Kd.R_alloc | apply Kd.R_drewN | apply Kd.R_drew)); exact HO_743000.out) hb); have n1_ := Aside0.mk (Kd.R_below (by (with_reducible repeat (first | apply Kd.R_alloc | apply Kd.R_drewN | apply Kd.R_drew)); exact HO_747000.out) hb); have n2_ := Aside0.mk (Kd.R_below (by (with_reducible repeat (first | apply Kd.R_alloc | apply Kd.R_drewN | apply Kd.R_drew)); exact HO_752000.out) hb); have n3_ := Aside0.mk (Kd.R_below (by (with_reducible repeat (first | apply Kd.R_alloc | apply Kd.R_drewN | apply Kd.R_drew)); exact HO755.out) hb); have n4_ := Aside0.mk (blk_below (g := gb733) (o := .cells #[.slice A0_0 l0_0.length c0_0] 24 (0, 0)) (by (with_reducible repeat (first | refine blk_drewN ?_ _ | refine blk_drew ?_ | refine blk_alloc ?_ _)); exact BK733.out) hb); have n5_ := Aside0.mk (blk_below (g := gb742) (o := .cells #[.slice Ao20 t738.length co20] 30 (0, 0)) (by (with_reducible repeat (first | refine blk_drewN ?_ _ | refine blk_drew ?_ | refine blk_alloc ?_ _)); exact BK742.out) hb); have n6_ := Aside0.mk (blk_below (g := gb746) (o := .cells #[.slice Ao26 t743.length co26] 30 (0, 0)) (by (with_reducible repeat (first | refine blk_drewN ?_ _ | refine blk_drew ?_ | refine blk_alloc ?_ _)); exact BK746.out) hb); have n7_ := Aside0.mk (blk_below (g := gb751) (o := .cells #[.slice Ao32 t747.length co32] 30 (0, 0)) (by (with_reducible repeat (first | refine blk_drewN ?_ _ | refine blk_drew ?_ | refine blk_alloc ?_ _)); exact BK751.out) hb); have n8_ := Aside0.mk (below_step (by repeat (first | (with_reducible first | exact HB.out | apply below_alloc | apply pw_below_drewN | apply below_drew1 | refine below_set ?_ GE733.out | refine below_set ?_ GE742.out | refine below_set ?_ GE746.out | refine below_set ?_ GE751.out) | exact HB.out)) hb); clear HO_743000; clear HO_747000; clear HO_752000; clear HO755; clear BK733; clear BK742; clear BK746; clear BK751; clear HB; have HO_743000 := n0_; have HO_747000 := n1_; have HO_752000 := n2_; have HO755 := n3_; have BK733 := n4_; have BK742 := n5_; have BK746 := n6_; have BK751 := n7_; have HB := n8_; clear n0_ n1_ n2_ n3_ n4_ n5_ n6_ n7_ n8_; (try clear hb); (try clear hb2); (try clear hk); (try clear hi)))
                  go_meet
                  case rel => exact ⟨_, ((t750 != t741)), (by first | rfl | (simp; done) | (simp [*]; done)), H', ⟨by have := HJ10.out; first | omega | exact Nat.le_refl _⟩, ⟨by (with_reducible repeat (first | apply Kd.R_alloc | apply Kd.R_drewN | apply Kd.R_drew)); exact Kd.R_mono HO_743000.out (fun _ hk => ⟨hk.1, hk.2.1⟩)⟩, ⟨by (with_reducible repeat (first | apply Kd.R_alloc | apply Kd.R_drewN | apply Kd.R_drew)); exact Kd.R_mono HO_747000.out (fun _ hk => ⟨hk.1.1, hk.1.2⟩)⟩, ⟨by (with_reducible repeat (first | apply Kd.R_alloc | apply Kd.R_drewN | apply Kd.R_drew)); exact Kd.R_mono HO_752000.out (fun _ hk => ⟨hk.1, hk.2.1⟩)⟩, ⟨by (with_reducible repeat (first | refine blk_drewN ?_ _ | refine blk_drew ?_ | refine blk_alloc ?_ _)); exact BK733.out⟩, ⟨by (with_reducible repeat (first | refine blk_drewN ?_ _ | refine blk_drew ?_ | refine blk_alloc ?_ _)); exact BK742.out⟩, ⟨by (with_reducible repeat (first | refine blk_drewN ?_ _ | refine blk_drew ?_ | refine blk_alloc ?_ _)); exact BK746.out⟩, ⟨by (with_reducible repeat (first | refine blk_drewN ?_ _ | refine blk_drew ?_ | refine blk_alloc ?_ _)); exact BK751.out⟩, ⟨by repeat (first | (with_reducible first | exact HB.out | apply below_alloc | apply pw_below_drewN | apply below_drew1 | refine below_set ?_ GE733.out | refine below_set ?_ GE742.out | refine below_set ?_ GE746.out | refine below_set ?_ GE751.out) | exact HB.out)⟩⟩
                · replace c72 := Bool.eq_false_iff.mpr c72
                  subst c72
                  have H1 : (laws_FnExactFirstWords.j1 kj10 t741 true l0_0 t738 t747) = some r := by rw [if_neg (show ¬ (false = true) by decide)] at H; exact H
                  clear H
                  have H := H1
                  clear H1
                  have H' := Aside0.mk H
                  clear H
                  have hnb81 := NB751_733.out
                  have hnc81 := NB733_751.out
                  have hnb82 := NB751_742.out
                  have hnc82 := NB742_751.out
                  have hnb83 := NB751_746.out
                  have hnc83 := NB746_751.out
                  have hcz84_0 : w69.cell? ⟨gb751, 0, none⟩ = some (.slice Ao32 t747.length co32) := (blk_cell BK751.out 0).trans rfl
                  have hfz84_0 := blk_frozen BK751.out 0
                  have hnb85 := NB742_733.out
                  have hnc85 := NB733_742.out
                  have hnb86 := NB742_746.out
                  have hnc86 := NB746_742.out
                  have hcz87_0 : w69.cell? ⟨gb742, 0, none⟩ = some (.slice Ao20 t738.length co20) := (blk_cell BK742.out 0).trans rfl
                  have hfz87_0 := blk_frozen BK742.out 0
                  go_wp2_with (first | (go_at_call 19; (with_reducible refine (laws_eqTrie.calls kj10 _ _ t747 _ _ t738 false _ ?side1 ?side2 ?side3 ?side4 A71.out).mono ?_); (case side1 => repeat (first | exact (Kd.R_reads' HO_752000.out).2.2 | (with_reducible refine Kd.C_alloc ?_ _) | (with_reducible refine Kd.C_drewN ?_ _) | (with_reducible refine Kd.C_drew ?_))); (case side2 => exact (Kd.R_reads' HO_752000.out).2.1); (case side3 => repeat (first | exact (Kd.R_reads' HO_743000.out).2.2 | (with_reducible refine Kd.C_alloc ?_ _) | (with_reducible refine Kd.C_drewN ?_ _) | (with_reducible refine Kd.C_drew ?_))); (case side4 => exact (Kd.R_reads' HO_743000.out).2.1); rintro e w88 ⟨rfl, hb⟩; have n0_ := Aside0.mk (Kd.R_below (by (with_reducible repeat (first | apply Kd.R_alloc | apply Kd.R_drewN | apply Kd.R_drew)); exact HO_743000.out) hb); have n1_ := Aside0.mk (Kd.R_below (by (with_reducible repeat (first | apply Kd.R_alloc | apply Kd.R_drewN | apply Kd.R_drew)); exact HO_747000.out) hb); have n2_ := Aside0.mk (Kd.R_below (by (with_reducible repeat (first | apply Kd.R_alloc | apply Kd.R_drewN | apply Kd.R_drew)); exact HO_752000.out) hb); have n3_ := Aside0.mk (Kd.R_below (by (with_reducible repeat (first | apply Kd.R_alloc | apply Kd.R_drewN | apply Kd.R_drew)); exact HO755.out) hb); have n4_ := Aside0.mk (blk_below (g := gb733) (o := .cells #[.slice A0_0 l0_0.length c0_0] 24 (0, 0)) (by (with_reducible repeat (first | refine blk_drewN ?_ _ | refine blk_drew ?_ | refine blk_alloc ?_ _)); exact BK733.out) hb); have n5_ := Aside0.mk (blk_below (g := gb742) (o := .cells #[.slice Ao20 t738.length co20] 30 (0, 0)) (by (with_reducible repeat (first | refine blk_drewN ?_ _ | refine blk_drew ?_ | refine blk_alloc ?_ _)); exact BK742.out) hb); have n6_ := Aside0.mk (blk_below (g := gb746) (o := .cells #[.slice Ao26 t743.length co26] 30 (0, 0)) (by (with_reducible repeat (first | refine blk_drewN ?_ _ | refine blk_drew ?_ | refine blk_alloc ?_ _)); exact BK746.out) hb); have n7_ := Aside0.mk (blk_below (g := gb751) (o := .cells #[.slice Ao32 t747.length co32] 30 (0, 0)) (by (with_reducible repeat (first | refine blk_drewN ?_ _ | refine blk_drew ?_ | refine blk_alloc ?_ _)); exact BK751.out) hb); have n8_ := Aside0.mk (below_step (by repeat (first | (with_reducible first | exact HB.out | apply below_alloc | apply pw_below_drewN | apply below_drew1 | refine below_set ?_ GE733.out | refine below_set ?_ GE742.out | refine below_set ?_ GE746.out | refine below_set ?_ GE751.out) | exact HB.out)) hb); clear HO_743000; clear HO_747000; clear HO_752000; clear HO755; clear BK733; clear BK742; clear BK746; clear BK751; clear HB; have HO_743000 := n0_; have HO_747000 := n1_; have HO_752000 := n2_; have HO755 := n3_; have BK733 := n4_; have BK742 := n5_; have BK746 := n6_; have BK751 := n7_; have HB := n8_; clear n0_ n1_ n2_ n3_ n4_ n5_ n6_ n7_ n8_; (try clear hb); (try clear hb2); (try clear hk); (try clear hi)))
                  go_meet
                  case rel => exact ⟨_, (true), (by first | rfl | (simp; done) | (simp [*]; done)), H', ⟨by have := HJ10.out; first | omega | exact Nat.le_refl _⟩, ⟨by (with_reducible repeat (first | apply Kd.R_alloc | apply Kd.R_drewN | apply Kd.R_drew)); exact Kd.R_mono HO_743000.out (fun _ hk => ⟨hk.1, hk.2.1⟩)⟩, ⟨by (with_reducible repeat (first | apply Kd.R_alloc | apply Kd.R_drewN | apply Kd.R_drew)); exact Kd.R_mono HO_747000.out (fun _ hk => ⟨hk.1.1, hk.1.2⟩)⟩, ⟨by (with_reducible repeat (first | apply Kd.R_alloc | apply Kd.R_drewN | apply Kd.R_drew)); exact Kd.R_mono HO_752000.out (fun _ hk => ⟨hk.1, hk.2.1⟩)⟩, ⟨by (with_reducible repeat (first | refine blk_drewN ?_ _ | refine blk_drew ?_ | refine blk_alloc ?_ _)); exact BK733.out⟩, ⟨by (with_reducible repeat (first | refine blk_drewN ?_ _ | refine blk_drew ?_ | refine blk_alloc ?_ _)); exact BK742.out⟩, ⟨by (with_reducible repeat (first | refine blk_drewN ?_ _ | refine blk_drew ?_ | refine blk_alloc ?_ _)); exact BK746.out⟩, ⟨by (with_reducible repeat (first | refine blk_drewN ?_ _ | refine blk_drew ?_ | refine blk_alloc ?_ _)); exact BK751.out⟩, ⟨by repeat (first | (with_reducible first | exact HB.out | apply below_alloc | apply pw_below_drewN | apply below_drew1 | refine below_set ?_ GE733.out | refine below_set ?_ GE742.out | refine below_set ?_ GE746.out | refine below_set ?_ GE751.out) | exact HB.out)⟩⟩
            case rest =>
              clear HC60
              try clear c1
              try clear c2
              try clear p2
              try clear c3
              try clear c3b0
              try clear c4
              try clear c5
              try clear c6
              try clear c7
              try clear c8
              try clear c12
              try clear c15
              try clear c17
              try clear c19
              try clear c21
              try clear c27
              try clear c28
              try clear c33
              try clear c34
              try clear c35
              try clear c38
              try clear c39
              try clear c40
              try clear c41
              try clear c42
              try clear c43
              try clear c44
              try clear c47
              try clear c48
              try clear c49
              try clear c51
              try clear c52
              try clear c55
              try clear c58
              try clear c65
              try clear c66
              try clear c67
              try clear c70
              try clear c70b0
              try clear c72
              try clear c73
              try clear c74
              try clear c75
              try clear c77
              try clear c78
              try clear c81
              try clear c82
              try clear c83
              try clear c85
              try clear c86
              try clear hcz13_0
              try clear hcz15_0
              try clear hcz22_0
              try clear hcz23_0
              try clear hcz29_0
              try clear hcz36_0
              try clear hcz42_0
              try clear hcz45_0
              try clear hcz50_0
              try clear hcz53_0
              try clear hcz5_0
              try clear hcz68_0
              try clear hcz76_0
              try clear hcz79_0
              try clear hcz84_0
              try clear hcz87_0
              try clear hfz13_0
              try clear hfz15_0
              try clear hfz22_0
              try clear hfz23_0
              try clear hfz29_0
              try clear hfz36_0
              try clear hfz42_0
              try clear hfz45_0
              try clear hfz50_0
              try clear hfz53_0
              try clear hfz5_0
              try clear hfz68_0
              try clear hfz76_0
              try clear hfz79_0
              try clear hfz84_0
              try clear hfz87_0
              try clear p2
              obtain ⟨kq, x61_59, rfl, HA, HJ59, HO_743000, HO_747000, HO_752000, BK733, BK742, BK746, BK751, HB⟩ := hcut
              have hl747000_59 := (Kd.R_reads' HO_747000.out).1
              rw [hl747000_59] at HO_747000
              (try simp only [hl747000_59])
              (try simp only [hl747000_59] at BK733)
              (try simp only [hl747000_59] at BK742)
              (try simp only [hl747000_59] at BK746)
              (try simp only [hl747000_59] at BK751)
              (try simp only [hl747000_59] at HO_743000)
              (try simp only [hl747000_59] at HO_752000)
              cases kq with
              | zero => exact absurd HA.out (by simp [laws_FnExactFirstWords.j1])
              | succ kj59 =>
                have H := HA.out
                clear HA
                simp only [laws_FnExactFirstWords.j1] at H
                by_cases c89 : x61_59 = true
                · subst c89
                  have H1 : (some false) = some r := by rw [if_pos rfl] at H; exact H
                  clear H
                  have H := H1
                  clear H1
                  obtain rfl := Option.some.inj H
                  go_wp2
                  go_ret
                  exact ⟨by first | rfl | (simp [errW_none, errW_some] <;> rfl) | (simp [*, errW_none, errW_some] <;> rfl), by repeat (first | (with_reducible first | exact HB.out | apply below_alloc | apply pw_below_drewN | apply below_drew1 | refine below_set ?_ GE733.out | refine below_set ?_ GE742.out | refine below_set ?_ GE746.out | refine below_set ?_ GE751.out) | exact HB.out)⟩
                · replace c89 := Bool.eq_false_iff.mpr c89
                  subst c89
                  have H1 : ((laws_markTrie.f kj59 t747 1).bind fun bt760 => ((laws_heldTrie.f kj59 bt760.2 1).bind fun t762 => (if t762 < 0 then (some false) else (if t762 = bt760.1 then ((laws_toTrie.f kj59 l0_0).bind fun t763 => ((impl_FirstWords.f t763).bind fun bt766 => ((laws_eqTrie.f kj59 bt766.1 t738).bind fun t771 => (if t771 = true then (laws_FnExactFirstWords.j2 kj59 bt760.1 (bt766.2 != t741) bt760.2) else (laws_FnExactFirstWords.j2 kj59 bt760.1 true bt760.2))))) else (some false))))) = some r := by rw [if_neg (show ¬ (false = true) by decide)] at H; exact H
                  clear H
                  have H := H1
                  clear H1
                  replace H := Option.bind_eq_some_iff.mp H
                  obtain ⟨⟨t760, t761⟩, A900, H⟩ := H
                  replace H : ((laws_heldTrie.f kj59 t761 1).bind fun t762 => (if t762 < 0 then (some false) else (if t762 = t760 then ((laws_toTrie.f kj59 l0_0).bind fun t763 => ((impl_FirstWords.f t763).bind fun bt766 => ((laws_eqTrie.f kj59 bt766.1 t738).bind fun t771 => (if t771 = true then (laws_FnExactFirstWords.j2 kj59 t760 (bt766.2 != t741) t761) else (laws_FnExactFirstWords.j2 kj59 t760 true t761))))) else (some false)))) = some r := H
                  have A90 := Aside0.mk A900
                  clear A900
                  replace H := Option.bind_eq_some_iff.mp H
                  obtain ⟨t762, A910, H⟩ := H
                  replace H : (if t762 < 0 then (some false) else (if t762 = t760 then ((laws_toTrie.f kj59 l0_0).bind fun t763 => ((impl_FirstWords.f t763).bind fun bt766 => ((laws_eqTrie.f kj59 bt766.1 t738).bind fun t771 => (if t771 = true then (laws_FnExactFirstWords.j2 kj59 t760 (bt766.2 != t741) t761) else (laws_FnExactFirstWords.j2 kj59 t760 true t761))))) else (some false))) = some r := H
                  have A91 := Aside0.mk A910
                  clear A910
                  by_cases c92 : t762 < 0
                  · rw [if_pos c92] at H
                    have c92b0 : decide (t762 < 0) = true := decide_eq_true c92
                    clear c92
                    obtain rfl := Option.some.inj H
                    have hnb93 := NB751_733.out
                    have hnc93 := NB733_751.out
                    have hnb94 := NB751_742.out
                    have hnc94 := NB742_751.out
                    have hnb95 := NB751_746.out
                    have hnc95 := NB746_751.out
                    have hcz96_0 : wc.cell? ⟨gb751, 0, none⟩ = some (.slice Ao32 t747.length co32) := (blk_cell BK751.out 0).trans rfl
                    have hfz96_0 := blk_frozen BK751.out 0
                    go_wp2_with (first | ((with_reducible refine gate_callee (f := 33) rfl ?_); refine goesL_ (some 64) rfl rfl Try.func33 (by kernel_rfl) rfl #[.agg #[.slice Ao32 t747.length co32], .int .i64 1] rfl (by (try simp only [List.map_toArray, List.map_cons, List.map_nil]); first | done | rfl | (simp only [List.length_drop, List.length_take]; rfl)) ?_; (with_reducible refine (laws_markTrie.calls kj59 (fun k_ => some k_ = (.slice Ao32 t747.length co32 : Value).ownBlock) (.slice Ao32 t747.length co32) t747 1 t760 t761 w _ ?side1 ?side2 A90.out).mono ?_); (case side1 => repeat (first | (with_reducible first | exact HB.out | apply below_alloc | apply pw_below_drewN | apply below_drew1 | refine below_set ?_ GE733.out | refine below_set ?_ GE742.out | refine below_set ?_ GE746.out | refine below_set ?_ GE751.out) | exact HB.out)); (case side2 => exact Kd.R_tight rfl HO_752000.out); rintro e w97 ⟨rfl, hy0, hb, hkp⟩; refine ⟨_, rfl, ?_⟩; have n0_ := Aside0.mk (Kd.R_mono (ok' := fun k_ => some k_ ≠ (.slice Ao26 t758.length co26 : Value).ownBlock ∧ some k_ ≠ (.slice Ao32 t747.length co32 : Value).ownBlock) (Kd.R_keptB (HO_743000.out) hkp (fun k_ hk_ hs_ => (hk_.2) hs_)) (fun k_ hk_ => ⟨hk_.1.1, hk_.1.2⟩)); have n1_ := Aside0.mk (Kd.R_mono (ok' := fun k_ => some k_ ≠ (.slice Ao20 t738.length co20 : Value).ownBlock ∧ some k_ ≠ (.slice Ao32 t747.length co32 : Value).ownBlock) (Kd.R_keptB (HO_747000.out) hkp (fun k_ hk_ hs_ => (hk_.2) hs_)) (fun k_ hk_ => ⟨hk_.1.1, hk_.1.2⟩)); have n2_ := Aside0.mk (Kd.R_reok rfl hy0 (fun k_ e_ => HO_752000.out.1 k_ e_)); have n3_ := Aside0.mk (blk_kept (by (with_reducible repeat (first | refine blk_drewN ?_ _ | refine blk_drew ?_ | refine blk_alloc ?_ _)); exact BK733.out) hkp (fun hs_ => (fun e_ => (Kd.R_ne HO_752000.out BK733.out (by decide)) e_) hs_)); have n4_ := Aside0.mk (blk_kept (by (with_reducible repeat (first | refine blk_drewN ?_ _ | refine blk_drew ?_ | refine blk_alloc ?_ _)); exact BK742.out) hkp (fun hs_ => (fun e_ => (Kd.R_ne HO_752000.out BK742.out (by decide)) e_) hs_)); have n5_ := Aside0.mk (blk_kept (by (with_reducible repeat (first | refine blk_drewN ?_ _ | refine blk_drew ?_ | refine blk_alloc ?_ _)); exact BK746.out) hkp (fun hs_ => (fun e_ => (Kd.R_ne HO_752000.out BK746.out (by decide)) e_) hs_)); have n6_ := Aside0.mk (blk_kept (by (with_reducible repeat (first | refine blk_drewN ?_ _ | refine blk_drew ?_ | refine blk_alloc ?_ _)); exact BK751.out) hkp (fun hs_ => (fun e_ => (Kd.R_ne HO_752000.out BK751.out (by decide)) e_) hs_)); have n7_ := Aside0.mk (hb); clear HO_743000; clear HO_747000; clear HO_752000; clear BK733; clear BK742; clear BK746; clear BK751; clear HB; have HO_743000 := n0_; have HO_747000 := n1_; have HO_752000 := n2_; have BK733 := n3_; have BK742 := n4_; have BK746 := n5_; have BK751 := n6_; have HB := n7_; clear n0_ n1_ n2_ n3_ n4_ n5_ n6_ n7_; (try clear hb); (try clear hkp); (try clear hy0); have hcz98_0 : w97.cell? ⟨gb751, 0, none⟩ = some (.slice Ao32 t747.length co32) := (blk_cell BK751.out 0).trans rfl; have hfz98_0 := blk_frozen BK751.out 0) | ((with_reducible refine gate_callee (f := 38) rfl ?_); refine goesL_ (some 67) rfl rfl Try.func38 (by kernel_rfl) rfl #[.agg #[.slice Ao32 t761.length co32], .int .i64 1] rfl (by (try simp only [List.map_toArray, List.map_cons, List.map_nil]); first | done | (rw [show t761.length = t747.length from (Kd.R_reads' HO_752000.out).1.symm] <;> rfl) | rfl | (simp only [List.length_drop, List.length_take]; rfl)) ?_; (with_reducible refine (laws_heldTrie.calls kj59 _ _ t761 1 t762 _ ?side1 ?side2 A91.out).mono ?_); (case side1 => repeat (first | exact (Kd.R_reads' HO_752000.out).2.2 | (with_reducible refine Kd.C_alloc ?_ _) | (with_reducible refine Kd.C_drewN ?_ _) | (with_reducible refine Kd.C_drew ?_))); (case side2 => rw [show t761.length = t747.length from (Kd.R_reads' HO_752000.out).1.symm]; exact (Kd.R_reads' HO_752000.out).2.1); rintro e w99 ⟨rfl, hb⟩; refine ⟨_, rfl, ?_⟩; have n0_ := Aside0.mk (Kd.R_below (by (with_reducible repeat (first | apply Kd.R_alloc | apply Kd.R_drewN | apply Kd.R_drew)); exact HO_743000.out) hb); have n1_ := Aside0.mk (Kd.R_below (by (with_reducible repeat (first | apply Kd.R_alloc | apply Kd.R_drewN | apply Kd.R_drew)); exact HO_747000.out) hb); have n2_ := Aside0.mk (Kd.R_below (by (with_reducible repeat (first | apply Kd.R_alloc | apply Kd.R_drewN | apply Kd.R_drew)); exact HO_752000.out) hb); have n3_ := Aside0.mk (blk_below (g := gb733) (o := .cells #[.slice A0_0 l0_0.length c0_0] 24 (0, 0)) (by (with_reducible repeat (first | refine blk_drewN ?_ _ | refine blk_drew ?_ | refine blk_alloc ?_ _)); exact BK733.out) hb); have n4_ := Aside0.mk (blk_below (g := gb742) (o := .cells #[.slice Ao20 t738.length co20] 30 (0, 0)) (by (with_reducible repeat (first | refine blk_drewN ?_ _ | refine blk_drew ?_ | refine blk_alloc ?_ _)); exact BK742.out) hb); have n5_ := Aside0.mk (blk_below (g := gb746) (o := .cells #[.slice Ao26 t758.length co26] 30 (0, 0)) (by (with_reducible repeat (first | refine blk_drewN ?_ _ | refine blk_drew ?_ | refine blk_alloc ?_ _)); exact BK746.out) hb); have n6_ := Aside0.mk (blk_below (g := gb751) (o := .cells #[.slice Ao32 t747.length co32] 30 (0, 0)) (by (with_reducible repeat (first | refine blk_drewN ?_ _ | refine blk_drew ?_ | refine blk_alloc ?_ _)); exact BK751.out) hb); have n7_ := Aside0.mk (below_step (by repeat (first | (with_reducible first | exact HB.out | apply below_alloc | apply pw_below_drewN | apply below_drew1 | refine below_set ?_ GE733.out | refine below_set ?_ GE742.out | refine below_set ?_ GE746.out | refine below_set ?_ GE751.out) | exact HB.out)) hb); clear HO_743000; clear HO_747000; clear HO_752000; clear BK733; clear BK742; clear BK746; clear BK751; clear HB; have HO_743000 := n0_; have HO_747000 := n1_; have HO_752000 := n2_; have BK733 := n3_; have BK742 := n4_; have BK746 := n5_; have BK751 := n6_; have HB := n7_; clear n0_ n1_ n2_ n3_ n4_ n5_ n6_ n7_; (try clear hb); (try clear hb2); (try clear hk); (try clear hi)))
                    go_ret
                    exact ⟨by first | rfl | (simp [errW_none, errW_some] <;> rfl) | (simp [*, errW_none, errW_some] <;> rfl), by repeat (first | (with_reducible first | exact HB.out | apply below_alloc | apply pw_below_drewN | apply below_drew1 | refine below_set ?_ GE733.out | refine below_set ?_ GE742.out | refine below_set ?_ GE746.out | refine below_set ?_ GE751.out) | exact HB.out)⟩
                  · rw [if_neg c92] at H
                    have c92b0 : decide (t762 < 0) = false := decide_eq_false c92
                    clear c92
                    by_cases c100 : t762 = t760
                    · rw [if_pos c100] at H
                      have c100b0 : (t762 == t760) = true := beq_iff_eq.mpr c100
                      have c100b1 : (t762 != t760) = false := bne_eq_false_iff_eq.mpr c100
                      clear c100
                      replace H := Option.bind_eq_some_iff.mp H
                      obtain ⟨t763, A1010, H⟩ := H
                      replace H : ((impl_FirstWords.f t763).bind fun bt766 => ((laws_eqTrie.f kj59 bt766.1 t738).bind fun t771 => (if t771 = true then (laws_FnExactFirstWords.j2 kj59 t760 (bt766.2 != t741) t761) else (laws_FnExactFirstWords.j2 kj59 t760 true t761)))) = some r := H
                      have A101 := Aside0.mk A1010
                      clear A1010
                      replace H := Option.bind_eq_some_iff.mp H
                      obtain ⟨⟨t766, t769⟩, A1020, H⟩ := H
                      replace H : ((laws_eqTrie.f kj59 t766 t738).bind fun t771 => (if t771 = true then (laws_FnExactFirstWords.j2 kj59 t760 (t769 != t741) t761) else (laws_FnExactFirstWords.j2 kj59 t760 true t761))) = some r := H
                      have A102 := Aside0.mk A1020
                      clear A1020
                      have HC103 := Aside0.mk H
                      clear H
                      have hnb104 := NB751_733.out
                      have hnc104 := NB733_751.out
                      have hnb105 := NB751_742.out
                      have hnc105 := NB742_751.out
                      have hnb106 := NB751_746.out
                      have hnc106 := NB746_751.out
                      have hcz107_0 : wc.cell? ⟨gb751, 0, none⟩ = some (.slice Ao32 t747.length co32) := (blk_cell BK751.out 0).trans rfl
                      have hfz107_0 := blk_frozen BK751.out 0
                      go_upto_region 25 with (first | ((with_reducible refine gate_callee (f := 33) rfl ?_); refine goesL_ (some 64) rfl rfl Try.func33 (by kernel_rfl) rfl #[.agg #[.slice Ao32 t747.length co32], .int .i64 1] rfl (by (try simp only [List.map_toArray, List.map_cons, List.map_nil]); first | done | rfl | (simp only [List.length_drop, List.length_take]; rfl)) ?_; (with_reducible refine (laws_markTrie.calls kj59 (fun k_ => some k_ = (.slice Ao32 t747.length co32 : Value).ownBlock) (.slice Ao32 t747.length co32) t747 1 t760 t761 w _ ?side1 ?side2 A90.out).mono ?_); (case side1 => repeat (first | (with_reducible first | exact HB.out | apply below_alloc | apply pw_below_drewN | apply below_drew1 | refine below_set ?_ GE733.out | refine below_set ?_ GE742.out | refine below_set ?_ GE746.out | refine below_set ?_ GE751.out) | exact HB.out)); (case side2 => exact Kd.R_tight rfl HO_752000.out); rintro e w108 ⟨rfl, hy0, hb, hkp⟩; refine ⟨_, rfl, ?_⟩; have n0_ := Aside0.mk (Kd.R_mono (ok' := fun k_ => some k_ ≠ (.slice Ao26 t758.length co26 : Value).ownBlock ∧ some k_ ≠ (.slice Ao32 t747.length co32 : Value).ownBlock) (Kd.R_keptB (HO_743000.out) hkp (fun k_ hk_ hs_ => (hk_.2) hs_)) (fun k_ hk_ => ⟨hk_.1.1, hk_.1.2⟩)); have n1_ := Aside0.mk (Kd.R_mono (ok' := fun k_ => some k_ ≠ (.slice Ao20 t738.length co20 : Value).ownBlock ∧ some k_ ≠ (.slice Ao32 t747.length co32 : Value).ownBlock) (Kd.R_keptB (HO_747000.out) hkp (fun k_ hk_ hs_ => (hk_.2) hs_)) (fun k_ hk_ => ⟨hk_.1.1, hk_.1.2⟩)); have n2_ := Aside0.mk (Kd.R_reok rfl hy0 (fun k_ e_ => HO_752000.out.1 k_ e_)); have n3_ := Aside0.mk (blk_kept (by (with_reducible repeat (first | refine blk_drewN ?_ _ | refine blk_drew ?_ | refine blk_alloc ?_ _)); exact BK733.out) hkp (fun hs_ => (fun e_ => (Kd.R_ne HO_752000.out BK733.out (by decide)) e_) hs_)); have n4_ := Aside0.mk (blk_kept (by (with_reducible repeat (first | refine blk_drewN ?_ _ | refine blk_drew ?_ | refine blk_alloc ?_ _)); exact BK742.out) hkp (fun hs_ => (fun e_ => (Kd.R_ne HO_752000.out BK742.out (by decide)) e_) hs_)); have n5_ := Aside0.mk (blk_kept (by (with_reducible repeat (first | refine blk_drewN ?_ _ | refine blk_drew ?_ | refine blk_alloc ?_ _)); exact BK746.out) hkp (fun hs_ => (fun e_ => (Kd.R_ne HO_752000.out BK746.out (by decide)) e_) hs_)); have n6_ := Aside0.mk (blk_kept (by (with_reducible repeat (first | refine blk_drewN ?_ _ | refine blk_drew ?_ | refine blk_alloc ?_ _)); exact BK751.out) hkp (fun hs_ => (fun e_ => (Kd.R_ne HO_752000.out BK751.out (by decide)) e_) hs_)); have n7_ := Aside0.mk (hb); clear HO_743000; clear HO_747000; clear HO_752000; clear BK733; clear BK742; clear BK746; clear BK751; clear HB; have HO_743000 := n0_; have HO_747000 := n1_; have HO_752000 := n2_; have BK733 := n3_; have BK742 := n4_; have BK746 := n5_; have BK751 := n6_; have HB := n7_; clear n0_ n1_ n2_ n3_ n4_ n5_ n6_ n7_; (try clear hb); (try clear hkp); (try clear hy0); have hcz109_0 : w108.cell? ⟨gb751, 0, none⟩ = some (.slice Ao32 t747.length co32) := (blk_cell BK751.out 0).trans rfl; have hfz109_0 := blk_frozen BK751.out 0) | ((with_reducible refine gate_callee (f := 38) rfl ?_); refine goesL_ (some 67) rfl rfl Try.func38 (by kernel_rfl) rfl #[.agg #[.slice Ao32 t761.length co32], .int .i64 1] rfl (by (try simp only [List.map_toArray, List.map_cons, List.map_nil]); first | done | (rw [show t761.length = t747.length from (Kd.R_reads' HO_752000.out).1.symm] <;> rfl) | rfl | (simp only [List.length_drop, List.length_take]; rfl)) ?_; (with_reducible refine (laws_heldTrie.calls kj59 _ _ t761 1 t762 _ ?side1 ?side2 A91.out).mono ?_); (case side1 => repeat (first | exact (Kd.R_reads' HO_752000.out).2.2 | (with_reducible refine Kd.C_alloc ?_ _) | (with_reducible refine Kd.C_drewN ?_ _) | (with_reducible refine Kd.C_drew ?_))); (case side2 => rw [show t761.length = t747.length from (Kd.R_reads' HO_752000.out).1.symm]; exact (Kd.R_reads' HO_752000.out).2.1); rintro e w110 ⟨rfl, hb⟩; refine ⟨_, rfl, ?_⟩; have n0_ := Aside0.mk (Kd.R_below (by (with_reducible repeat (first | apply Kd.R_alloc | apply Kd.R_drewN | apply Kd.R_drew)); exact HO_743000.out) hb); have n1_ := Aside0.mk (Kd.R_below (by (with_reducible repeat (first | apply Kd.R_alloc | apply Kd.R_drewN | apply Kd.R_drew)); exact HO_747000.out) hb); have n2_ := Aside0.mk (Kd.R_below (by (with_reducible repeat (first | apply Kd.R_alloc | apply Kd.R_drewN | apply Kd.R_drew)); exact HO_752000.out) hb); have n3_ := Aside0.mk (blk_below (g := gb733) (o := .cells #[.slice A0_0 l0_0.length c0_0] 24 (0, 0)) (by (with_reducible repeat (first | refine blk_drewN ?_ _ | refine blk_drew ?_ | refine blk_alloc ?_ _)); exact BK733.out) hb); have n4_ := Aside0.mk (blk_below (g := gb742) (o := .cells #[.slice Ao20 t738.length co20] 30 (0, 0)) (by (with_reducible repeat (first | refine blk_drewN ?_ _ | refine blk_drew ?_ | refine blk_alloc ?_ _)); exact BK742.out) hb); have n5_ := Aside0.mk (blk_below (g := gb746) (o := .cells #[.slice Ao26 t758.length co26] 30 (0, 0)) (by (with_reducible repeat (first | refine blk_drewN ?_ _ | refine blk_drew ?_ | refine blk_alloc ?_ _)); exact BK746.out) hb); have n6_ := Aside0.mk (blk_below (g := gb751) (o := .cells #[.slice Ao32 t747.length co32] 30 (0, 0)) (by (with_reducible repeat (first | refine blk_drewN ?_ _ | refine blk_drew ?_ | refine blk_alloc ?_ _)); exact BK751.out) hb); have n7_ := Aside0.mk (below_step (by repeat (first | (with_reducible first | exact HB.out | apply below_alloc | apply pw_below_drewN | apply below_drew1 | refine below_set ?_ GE733.out | refine below_set ?_ GE742.out | refine below_set ?_ GE746.out | refine below_set ?_ GE751.out) | exact HB.out)) hb); clear HO_743000; clear HO_747000; clear HO_752000; clear BK733; clear BK742; clear BK746; clear BK751; clear HB; have HO_743000 := n0_; have HO_747000 := n1_; have HO_752000 := n2_; have BK733 := n3_; have BK742 := n4_; have BK746 := n5_; have BK751 := n6_; have HB := n7_; clear n0_ n1_ n2_ n3_ n4_ n5_ n6_ n7_; (try clear hb); (try clear hb2); (try clear hk); (try clear hi); have hnb111 := NB733_742.out; have hnc111 := NB742_733.out; have hnb112 := NB733_746.out; have hnc112 := NB746_733.out; have hcz113_0 : w110.cell? ⟨gb733, 0, none⟩ = some (.slice A0_0 l0_0.length c0_0) := (blk_cell BK733.out 0).trans rfl; have hfz113_0 := blk_frozen BK733.out 0) | ((with_reducible refine gate_callee (f := 17) rfl ?_); refine goesL_ (some 75) rfl rfl Try.func17 (by kernel_rfl) rfl #[.agg #[.slice A0_0 l0_0.length c0_0]] rfl (by (try simp only [List.map_toArray, List.map_cons, List.map_nil]); first | done | rfl | (simp only [List.length_drop, List.length_take]; rfl)) ?_; (with_reducible refine (laws_toTrie.calls kj59 _ _ l0_0 t763 _ ?side1 ?side2 A101.out).mono ?_); (case side1 => repeat (first | exact (Kd.C_below HR0_0.out HB.out) | (with_reducible refine Kd.C_alloc ?_ _) | (with_reducible refine Kd.C_drewN ?_ _) | (with_reducible refine Kd.C_drew ?_))); (case side2 => exact HC0_0.out); rintro e w114 ⟨v764, rfl, ho0, hb⟩; refine ⟨_, rfl, ?_⟩; have n0_ := Aside0.mk (Kd.R_elder' (by (with_reducible repeat (first | apply Kd.R_alloc | apply Kd.R_drewN | apply Kd.R_drew)); exact HO_743000.out) (Kd.R_base ho0) hb); have n1_ := Aside0.mk (Kd.R_elder' (by (with_reducible repeat (first | apply Kd.R_alloc | apply Kd.R_drewN | apply Kd.R_drew)); exact HO_747000.out) (Kd.R_base ho0) hb); have n2_ := Aside0.mk (Kd.R_elder' (by (with_reducible repeat (first | apply Kd.R_alloc | apply Kd.R_drewN | apply Kd.R_drew)); exact HO_752000.out) (Kd.R_base ho0) hb); have n3_ := Aside0.mk (Kd.R_lower (Kd.R_new' (Kd.R_new' (Kd.R_new' ho0 (Kd.R_lt (by (with_reducible repeat (first | apply Kd.R_alloc | apply Kd.R_drewN | apply Kd.R_drew)); exact HO_743000.out))) (Kd.R_lt (by (with_reducible repeat (first | apply Kd.R_alloc | apply Kd.R_drewN | apply Kd.R_drew)); exact HO_747000.out))) (Kd.R_lt (by (with_reducible repeat (first | apply Kd.R_alloc | apply Kd.R_drewN | apply Kd.R_drew)); exact HO_752000.out))) (below_size (by repeat (first | (with_reducible first | exact HB.out | apply below_alloc | apply pw_below_drewN | apply below_drew1 | refine below_set ?_ GE733.out | refine below_set ?_ GE742.out | refine below_set ?_ GE746.out | refine below_set ?_ GE751.out) | exact HB.out)))); have n4_ := Aside0.mk (blk_below (g := gb733) (o := .cells #[.slice A0_0 l0_0.length c0_0] 24 (0, 0)) (by (with_reducible repeat (first | refine blk_drewN ?_ _ | refine blk_drew ?_ | refine blk_alloc ?_ _)); exact BK733.out) hb); have n5_ := Aside0.mk (blk_below (g := gb742) (o := .cells #[.slice Ao20 t738.length co20] 30 (0, 0)) (by (with_reducible repeat (first | refine blk_drewN ?_ _ | refine blk_drew ?_ | refine blk_alloc ?_ _)); exact BK742.out) hb); have n6_ := Aside0.mk (blk_below (g := gb746) (o := .cells #[.slice Ao26 t758.length co26] 30 (0, 0)) (by (with_reducible repeat (first | refine blk_drewN ?_ _ | refine blk_drew ?_ | refine blk_alloc ?_ _)); exact BK746.out) hb); have n7_ := Aside0.mk (blk_below (g := gb751) (o := .cells #[.slice Ao32 t747.length co32] 30 (0, 0)) (by (with_reducible repeat (first | refine blk_drewN ?_ _ | refine blk_drew ?_ | refine blk_alloc ?_ _)); exact BK751.out) hb); have n8_ := Aside0.mk (below_step (by repeat (first | (with_reducible first | exact HB.out | apply below_alloc | apply pw_below_drewN | apply below_drew1 | refine below_set ?_ GE733.out | refine below_set ?_ GE742.out | refine below_set ?_ GE746.out | refine below_set ?_ GE751.out) | exact HB.out)) hb); clear HO_743000; clear HO_747000; clear HO_752000; clear BK733; clear BK742; clear BK746; clear BK751; clear HB; have HO_743000 := n0_; have HO_747000 := n1_; have HO_752000 := n2_; have HO765 := n3_; have BK733 := n4_; have BK742 := n5_; have BK746 := n6_; have BK751 := n7_; have HB := n8_; clear n0_ n1_ n2_ n3_ n4_ n5_ n6_ n7_ n8_; (try clear hb); (try clear hb2); (try clear hk); (try clear hi); (try clear ho0); obtain ⟨Ao115, co115, eo115⟩ := Kd.R_slice HO765.out; subst eo115) | ((with_reducible refine gate_callee (f := 42) rfl ?_); refine goesL_ (some 76) rfl rfl Try.func42 (by kernel_rfl) rfl #[.agg #[.slice Ao115 t763.length co115]] rfl (by (try simp only [List.map_toArray, List.map_cons, List.map_nil]); first | done | rfl | (simp only [List.length_drop, List.length_take]; rfl)) ?_; (with_reducible refine (impl_FirstWords.calls _ _ t763 t766 t769 _ ?side1 ?side2 A102.out).mono ?_); (case side1 => repeat (first | exact (Kd.R_reads' HO765.out).2.2 | (with_reducible refine Kd.C_alloc ?_ _) | (with_reducible refine Kd.C_drewN ?_ _) | (with_reducible refine Kd.C_drew ?_))); (case side2 => exact (Kd.R_reads' HO765.out).2.1); rintro e w116 ⟨v767, rfl, ho0, hb⟩; refine ⟨_, rfl, ?_⟩; have n0_ := Aside0.mk (Kd.R_elder' (by (with_reducible repeat (first | apply Kd.R_alloc | apply Kd.R_drewN | apply Kd.R_drew)); exact HO_743000.out) (Kd.R_base ho0) hb); have n1_ := Aside0.mk (Kd.R_elder' (by (with_reducible repeat (first | apply Kd.R_alloc | apply Kd.R_drewN | apply Kd.R_drew)); exact HO_747000.out) (Kd.R_base ho0) hb); have n2_ := Aside0.mk (Kd.R_elder' (by (with_reducible repeat (first | apply Kd.R_alloc | apply Kd.R_drewN | apply Kd.R_drew)); exact HO_752000.out) (Kd.R_base ho0) hb); have n3_ := Aside0.mk (Kd.R_elder' (by (with_reducible repeat (first | apply Kd.R_alloc | apply Kd.R_drewN | apply Kd.R_drew)); exact HO765.out) (Kd.R_base ho0) hb); have n4_ := Aside0.mk (Kd.R_lower (Kd.R_new' (Kd.R_new' (Kd.R_new' (Kd.R_new' ho0 (Kd.R_lt (by (with_reducible repeat (first | apply Kd.R_alloc | apply Kd.R_drewN | apply Kd.R_drew)); exact HO_743000.out))) (Kd.R_lt (by (with_reducible repeat (first | apply Kd.R_alloc | apply Kd.R_drewN | apply Kd.R_drew)); exact HO_747000.out))) (Kd.R_lt (by (with_reducible repeat (first | apply Kd.R_alloc | apply Kd.R_drewN | apply Kd.R_drew)); exact HO_752000.out))) (Kd.R_lt (by (with_reducible repeat (first | apply Kd.R_alloc | apply Kd.R_drewN | apply Kd.R_drew)); exact HO765.out))) (below_size (by repeat (first | (with_reducible first | exact HB.out | apply below_alloc | apply pw_below_drewN | apply below_drew1 | refine below_set ?_ GE733.out | refine below_set ?_ GE742.out | refine below_set ?_ GE746.out | refine below_set ?_ GE751.out) | exact HB.out)))); have n5_ := Aside0.mk (blk_below (g := gb733) (o := .cells #[.slice A0_0 l0_0.length c0_0] 24 (0, 0)) (by (with_reducible repeat (first | refine blk_drewN ?_ _ | refine blk_drew ?_ | refine blk_alloc ?_ _)); exact BK733.out) hb); have n6_ := Aside0.mk (blk_below (g := gb742) (o := .cells #[.slice Ao20 t738.length co20] 30 (0, 0)) (by (with_reducible repeat (first | refine blk_drewN ?_ _ | refine blk_drew ?_ | refine blk_alloc ?_ _)); exact BK742.out) hb); have n7_ := Aside0.mk (blk_below (g := gb746) (o := .cells #[.slice Ao26 t758.length co26] 30 (0, 0)) (by (with_reducible repeat (first | refine blk_drewN ?_ _ | refine blk_drew ?_ | refine blk_alloc ?_ _)); exact BK746.out) hb); have n8_ := Aside0.mk (blk_below (g := gb751) (o := .cells #[.slice Ao32 t747.length co32] 30 (0, 0)) (by (with_reducible repeat (first | refine blk_drewN ?_ _ | refine blk_drew ?_ | refine blk_alloc ?_ _)); exact BK751.out) hb); have n9_ := Aside0.mk (below_step (by repeat (first | (with_reducible first | exact HB.out | apply below_alloc | apply pw_below_drewN | apply below_drew1 | refine below_set ?_ GE733.out | refine below_set ?_ GE742.out | refine below_set ?_ GE746.out | refine below_set ?_ GE751.out) | exact HB.out)) hb); clear HO_743000; clear HO_747000; clear HO_752000; clear HO765; clear BK733; clear BK742; clear BK746; clear BK751; clear HB; have HO_743000 := n0_; have HO_747000 := n1_; have HO_752000 := n2_; have HO765 := n3_; have HO768 := n4_; have BK733 := n5_; have BK742 := n6_; have BK746 := n7_; have BK751 := n8_; have HB := n9_; clear n0_ n1_ n2_ n3_ n4_ n5_ n6_ n7_ n8_ n9_; (try clear hb); (try clear hb2); (try clear hk); (try clear hi); (try clear ho0)) | ((with_reducible refine gate_dst (N := 12) rfl ?_); refine box_event ?hg (N := 12) ?hd (cs := #[.slice none 0 0]) (t := 30) ?hr ?_; (case hd => rfl); (case hg => rfl); (case hr => first | (go_simp; done) | (go_simp; rfl)); intro gb770 hg w117 hbox hb; have n0_ := Aside0.mk (Kd.R_below (by (with_reducible repeat (first | apply Kd.R_alloc | apply Kd.R_drewN | apply Kd.R_drew)); exact HO_743000.out) hb); have n1_ := Aside0.mk (Kd.R_below (by (with_reducible repeat (first | apply Kd.R_alloc | apply Kd.R_drewN | apply Kd.R_drew)); exact HO_747000.out) hb); have n2_ := Aside0.mk (Kd.R_below (by (with_reducible repeat (first | apply Kd.R_alloc | apply Kd.R_drewN | apply Kd.R_drew)); exact HO_752000.out) hb); have n3_ := Aside0.mk (Kd.R_below (by (with_reducible repeat (first | apply Kd.R_alloc | apply Kd.R_drewN | apply Kd.R_drew)); exact HO765.out) hb); have n4_ := Aside0.mk (Kd.R_below (by (with_reducible repeat (first | apply Kd.R_alloc | apply Kd.R_drewN | apply Kd.R_drew)); exact HO768.out) hb); have n5_ := Aside0.mk (blk_below (g := gb733) (o := .cells #[.slice A0_0 l0_0.length c0_0] 24 (0, 0)) (by (with_reducible repeat (first | refine blk_drewN ?_ _ | refine blk_drew ?_ | refine blk_alloc ?_ _)); exact BK733.out) hb); have n6_ := Aside0.mk (blk_below (g := gb742) (o := .cells #[.slice Ao20 t738.length co20] 30 (0, 0)) (by (with_reducible repeat (first | refine blk_drewN ?_ _ | refine blk_drew ?_ | refine blk_alloc ?_ _)); exact BK742.out) hb); have n7_ := Aside0.mk (blk_below (g := gb746) (o := .cells #[.slice Ao26 t758.length co26] 30 (0, 0)) (by (with_reducible repeat (first | refine blk_drewN ?_ _ | refine blk_drew ?_ | refine blk_alloc ?_ _)); exact BK746.out) hb); have n8_ := Aside0.mk (blk_below (g := gb751) (o := .cells #[.slice Ao32 t747.length co32] 30 (0, 0)) (by (with_reducible repeat (first | refine blk_drewN ?_ _ | refine blk_drew ?_ | refine blk_alloc ?_ _)); exact BK751.out) hb); have n9_ := Aside0.mk (below_step (by repeat (first | (with_reducible first | exact HB.out | apply below_alloc | apply pw_below_drewN | apply below_drew1 | refine below_set ?_ GE733.out | refine below_set ?_ GE742.out | refine below_set ?_ GE746.out | refine below_set ?_ GE751.out) | exact HB.out)) hb); have n10_ := Aside0.mk (hbox); have n11_ := Aside0.mk ((by rw [hg]; exact (below_size (by repeat (first | (with_reducible first | exact HB.out | apply below_alloc | apply pw_below_drewN | apply below_drew1 | refine below_set ?_ GE733.out | refine below_set ?_ GE742.out | refine below_set ?_ GE746.out | refine below_set ?_ GE751.out) | exact HB.out))) : w.heap.size ≤ gb770)); have n12_ := Aside0.mk ((by rw [hg]; exact (below_size (by repeat (first | (with_reducible first | exact HB.out | apply below_alloc | apply pw_below_drewN | apply below_drew1 | refine below_set ?_ GE733.out | refine below_set ?_ GE742.out | refine below_set ?_ GE746.out | refine below_set ?_ GE751.out) | exact HB.out))) : w.heap.size ≤ gb770)); have n13_ := Aside0.mk ((by rw [hg]; exact Nat.ne_of_lt (blk_lt (g := gb733) (o := .cells #[.slice A0_0 l0_0.length c0_0] 24 (0, 0)) (by (with_reducible repeat (first | refine blk_drewN ?_ _ | refine blk_drew ?_ | refine blk_alloc ?_ _)); exact BK733.out)) : gb733 ≠ gb770)); have n14_ := Aside0.mk ((by rw [hg]; exact Nat.ne_of_gt (blk_lt (g := gb733) (o := .cells #[.slice A0_0 l0_0.length c0_0] 24 (0, 0)) (by (with_reducible repeat (first | refine blk_drewN ?_ _ | refine blk_drew ?_ | refine blk_alloc ?_ _)); exact BK733.out)) : gb770 ≠ gb733)); have n15_ := Aside0.mk ((by rw [hg]; exact Nat.ne_of_lt (blk_lt (g := gb742) (o := .cells #[.slice Ao20 t738.length co20] 30 (0, 0)) (by (with_reducible repeat (first | refine blk_drewN ?_ _ | refine blk_drew ?_ | refine blk_alloc ?_ _)); exact BK742.out)) : gb742 ≠ gb770)); have n16_ := Aside0.mk ((by rw [hg]; exact Nat.ne_of_gt (blk_lt (g := gb742) (o := .cells #[.slice Ao20 t738.length co20] 30 (0, 0)) (by (with_reducible repeat (first | refine blk_drewN ?_ _ | refine blk_drew ?_ | refine blk_alloc ?_ _)); exact BK742.out)) : gb770 ≠ gb742)); have n17_ := Aside0.mk ((by rw [hg]; exact Nat.ne_of_lt (blk_lt (g := gb746) (o := .cells #[.slice Ao26 t758.length co26] 30 (0, 0)) (by (with_reducible repeat (first | refine blk_drewN ?_ _ | refine blk_drew ?_ | refine blk_alloc ?_ _)); exact BK746.out)) : gb746 ≠ gb770)); have n18_ := Aside0.mk ((by rw [hg]; exact Nat.ne_of_gt (blk_lt (g := gb746) (o := .cells #[.slice Ao26 t758.length co26] 30 (0, 0)) (by (with_reducible repeat (first | refine blk_drewN ?_ _ | refine blk_drew ?_ | refine blk_alloc ?_ _)); exact BK746.out)) : gb770 ≠ gb746)); have n19_ := Aside0.mk ((by rw [hg]; exact Nat.ne_of_lt (blk_lt (g := gb751) (o := .cells #[.slice Ao32 t747.length co32] 30 (0, 0)) (by (with_reducible repeat (first | refine blk_drewN ?_ _ | refine blk_drew ?_ | refine blk_alloc ?_ _)); exact BK751.out)) : gb751 ≠ gb770)); have n20_ := Aside0.mk ((by rw [hg]; exact Nat.ne_of_gt (blk_lt (g := gb751) (o := .cells #[.slice Ao32 t747.length co32] 30 (0, 0)) (by (with_reducible repeat (first | refine blk_drewN ?_ _ | refine blk_drew ?_ | refine blk_alloc ?_ _)); exact BK751.out)) : gb770 ≠ gb751)); clear HO_743000; clear HO_747000; clear HO_752000; clear HO765; clear HO768; clear BK733; clear BK742; clear BK746; clear BK751; clear HB; have HO_743000 := n0_; have HO_747000 := n1_; have HO_752000 := n2_; have HO765 := n3_; have HO768 := n4_; have BK733 := n5_; have BK742 := n6_; have BK746 := n7_; have BK751 := n8_; have HB := n9_; have BK770 := n10_; have GW770 := n11_; have GE770 := n12_; have NB733_770 := n13_; have NB770_733 := n14_; have NB742_770 := n15_; have NB770_742 := n16_; have NB746_770 := n17_; have NB770_746 := n18_; have NB751_770 := n19_; have NB770_751 := n20_; clear n0_ n1_ n2_ n3_ n4_ n5_ n6_ n7_ n8_ n9_ n10_ n11_ n12_ n13_ n14_ n15_ n16_ n17_ n18_ n19_ n20_; clear hb hbox hg; obtain ⟨Ao118, co118, eo118⟩ := Kd.R_slice HO768.out; subst eo118; have hnb119 := NB770_733.out; have hnc119 := NB733_770.out; have hnb120 := NB770_742.out; have hnc120 := NB742_770.out; have hnb121 := NB770_746.out; have hnc121 := NB746_770.out; have hnb122 := NB770_751.out; have hnc122 := NB751_770.out; have hcz123_0 : w117.cell? ⟨gb770, 0, none⟩ = some (.slice none 0 0) := (blk_cell BK770.out 0).trans rfl; have hfz123_0 := blk_frozen BK770.out 0))
                      (try simp only [Act.put, List.setIfInBounds_toArray, List.set_cons_zero, List.set_cons_succ])
                      go_cut [87] (fun v87 wc => ∃ (kq : Nat) (x87_102 : Bool), v87 = .bool x87_102 ∧ Aside0 (laws_FnExactFirstWords.j2 kq t760 x87_102 t761 = some r) ∧ Aside0 (kq ≤ kj59) ∧ Aside0 (Kd.R k86 86 wc w.heap.size (fun k_ => some k_ ≠ ((.slice Ao26 t758.length co26) : Value).ownBlock ∧ some k_ ≠ ((.slice Ao32 t747.length co32) : Value).ownBlock ∧ some k_ ≠ ((.slice Ao118 t766.length co118) : Value).ownBlock) (.slice Ao20 t738.length co20) t738) ∧ Aside0 (Kd.R k86 86 wc w.heap.size (fun k_ => some k_ ≠ ((.slice Ao20 t738.length co20) : Value).ownBlock ∧ some k_ ≠ ((.slice Ao32 t747.length co32) : Value).ownBlock ∧ some k_ ≠ ((.slice Ao118 t766.length co118) : Value).ownBlock) (.slice Ao26 t758.length co26) t758) ∧ Aside0 (Kd.R k86 86 wc w.heap.size (fun k_ => some k_ ≠ ((.slice Ao20 t738.length co20) : Value).ownBlock ∧ some k_ ≠ ((.slice Ao26 t758.length co26) : Value).ownBlock ∧ some k_ ≠ ((.slice Ao118 t766.length co118) : Value).ownBlock) (.slice Ao32 t747.length co32) t761) ∧ Aside0 (Kd.R k86 86 wc w.heap.size (fun k_ => some k_ ≠ ((.slice Ao20 t738.length co20) : Value).ownBlock ∧ some k_ ≠ ((.slice Ao26 t758.length co26) : Value).ownBlock ∧ some k_ ≠ ((.slice Ao32 t747.length co32) : Value).ownBlock) (.slice Ao118 t766.length co118) t766) ∧ Aside0 (wc.heap[gb733]? = some (.cells #[(.slice A0_0 l0_0.length c0_0)] 24 (0, 0))) ∧ Aside0 (wc.heap[gb742]? = some (.cells #[(.slice Ao20 t738.length co20)] 30 (0, 0))) ∧ Aside0 (wc.heap[gb746]? = some (.cells #[(.slice Ao26 t758.length co26)] 30 (0, 0))) ∧ Aside0 (wc.heap[gb751]? = some (.cells #[(.slice Ao32 t747.length co32)] 30 (0, 0))) ∧ Aside0 (wc.heap[gb770]? = some (.cells #[(.slice Ao118 t766.length co118)] 30 (0, 0))) ∧ Aside0 (Below w.heap.size w wc))
                      case first =>
                        have H := HC103.out
                        clear HC103
                        replace H := Option.bind_eq_some_iff.mp H
                        obtain ⟨t771, A1240, H⟩ := H
                        replace H : (if t771 = true then (laws_FnExactFirstWords.j2 kj59 t760 (t769 != t741) t761) else (laws_FnExactFirstWords.j2 kj59 t760 true t761)) = some r := H
                        have A124 := Aside0.mk A1240
                        clear A1240
                        by_cases c125 : t771 = true
                        · subst c125
                          have H1 : (laws_FnExactFirstWords.j2 kj59 t760 (t769 != t741) t761) = some r := by rw [if_pos rfl] at H; exact H
                          clear H
                          have H := H1
                          clear H1
                          have H' := Aside0.mk H
                          clear H
                          have hnb126 := NB770_733.out
                          have hnc126 := NB733_770.out
                          have hnb127 := NB770_742.out
                          have hnc127 := NB742_770.out
                          have hnb128 := NB770_746.out
                          have hnc128 := NB746_770.out
                          have hnb129 := NB770_751.out
                          have hnc129 := NB751_770.out
                          have hcz130_0 : w117.cell? ⟨gb770, 0, none⟩ = some (.slice none 0 0) := (blk_cell BK770.out 0).trans rfl
                          have hfz130_0 := blk_frozen BK770.out 0
                          have hnb131 := NB742_733.out
                          have hnc131 := NB733_742.out
                          have hnb132 := NB742_746.out
                          have hnc132 := NB746_742.out
                          have hnb133 := NB742_751.out
                          have hnc133 := NB751_742.out
                          have hcz134_0 : w117.cell? ⟨gb742, 0, none⟩ = some (.slice Ao20 t738.length co20) := (blk_cell BK742.out 0).trans rfl
                          have hfz134_0 := blk_frozen BK742.out 0
                          go_wp2_with (first | ((with_reducible refine gate_callee (f := 19) rfl ?_); refine goesL_ (some 81) rfl rfl Try.func19 (by kernel_rfl) rfl #[.agg #[.slice Ao118 t766.length co118], .agg #[.slice Ao20 t738.length co20]] rfl (by (try simp only [List.map_toArray, List.map_cons, List.map_nil]); first | done | rfl | (simp only [List.length_drop, List.length_take]; rfl)) ?_; (with_reducible refine (laws_eqTrie.calls kj59 _ _ t766 _ _ t738 true _ ?side1 ?side2 ?side3 ?side4 A124.out).mono ?_); (case side1 => refine (Kd.R_reads' (e := 86) (base := w.heap.size) (ok := fun k_ => ((((True ∧ some k_ ≠ (.slice Ao20 t738.length co20 : Value).ownBlock) ∧ some k_ ≠ (.slice Ao26 t758.length co26 : Value).ownBlock) ∧ some k_ ≠ (.slice Ao32 t747.length co32 : Value).ownBlock) ∧ some k_ ≠ (.slice Ao115 t763.length co115 : Value).ownBlock)) (n := t766.length) (c := co118) ?_).2.2; exact (by (with_reducible repeat (first | apply Kd.R_alloc | apply Kd.R_drewN | apply Kd.R_drew)); exact (Kd.R_mono (R_same_ (Kd.R_far (p := ⟨gb770, 0, none⟩) (Kd.R_types HO768.out BK770.out (by decide)) (fun _ hk => hk.2) (.slice Ao118 t766.length co118)) rfl) (fun _ h_ => h_.1)))); (case side2 => exact (Kd.R_reads' HO768.out).2.1); (case side3 => refine (Kd.R_reads' (e := 86) (base := w.heap.size) (ok := fun k_ => (((some k_ ≠ (.slice Ao26 t758.length co26 : Value).ownBlock ∧ some k_ ≠ (.slice Ao32 t747.length co32 : Value).ownBlock) ∧ some k_ ≠ (.slice Ao115 t763.length co115 : Value).ownBlock) ∧ some k_ ≠ (.slice Ao118 t766.length co118 : Value).ownBlock)) (n := t738.length) (c := co20) ?_).2.2; exact (by (with_reducible repeat (first | apply Kd.R_alloc | apply Kd.R_drewN | apply Kd.R_drew)); exact (Kd.R_mono (R_same_ (Kd.R_far (p := ⟨gb770, 0, none⟩) (Kd.R_types HO_743000.out BK770.out (by decide)) (fun _ hk => hk.2) (.slice Ao118 t766.length co118)) rfl) (fun _ h_ => h_.1)))); (case side4 => exact (Kd.R_reads' HO_743000.out).2.1); rintro e w135 ⟨rfl, hb⟩; refine ⟨_, rfl, ?_⟩; have n0_ := Aside0.mk (Kd.R_below (by (with_reducible repeat (first | apply Kd.R_alloc | apply Kd.R_drewN | apply Kd.R_drew)); exact (Kd.R_mono (R_same_ (Kd.R_far (p := ⟨gb770, 0, none⟩) (Kd.R_types HO_743000.out BK770.out (by decide)) (fun _ hk => hk.2) (.slice Ao118 t766.length co118)) rfl) (fun _ h_ => h_.1))) hb); have n1_ := Aside0.mk (Kd.R_below (by (with_reducible repeat (first | apply Kd.R_alloc | apply Kd.R_drewN | apply Kd.R_drew)); exact (Kd.R_mono (R_same_ (Kd.R_far (p := ⟨gb770, 0, none⟩) (Kd.R_types HO_747000.out BK770.out (by decide)) (fun _ hk => hk.2) (.slice Ao118 t766.length co118)) rfl) (fun _ h_ => h_.1))) hb); have n2_ := Aside0.mk (Kd.R_below (by (with_reducible repeat (first | apply Kd.R_alloc | apply Kd.R_drewN | apply Kd.R_drew)); exact (Kd.R_mono (R_same_ (Kd.R_far (p := ⟨gb770, 0, none⟩) (Kd.R_types HO_752000.out BK770.out (by decide)) (fun _ hk => hk.2) (.slice Ao118 t766.length co118)) rfl) (fun _ h_ => h_.1))) hb); have n3_ := Aside0.mk (Kd.R_below (by (with_reducible repeat (first | apply Kd.R_alloc | apply Kd.R_drewN | apply Kd.R_drew)); exact (Kd.R_mono (R_same_ (Kd.R_far (p := ⟨gb770, 0, none⟩) (Kd.R_types HO765.out BK770.out (by decide)) (fun _ hk => hk.2) (.slice Ao118 t766.length co118)) rfl) (fun _ h_ => h_.1))) hb); have n4_ := Aside0.mk (Kd.R_below (by (with_reducible repeat (first | apply Kd.R_alloc | apply Kd.R_drewN | apply Kd.R_drew)); exact (Kd.R_mono (R_same_ (Kd.R_far (p := ⟨gb770, 0, none⟩) (Kd.R_types HO768.out BK770.out (by decide)) (fun _ hk => hk.2) (.slice Ao118 t766.length co118)) rfl) (fun _ h_ => h_.1))) hb); have n5_ := Aside0.mk (blk_below (g := gb733) (o := .cells #[.slice A0_0 l0_0.length c0_0] 24 (0, 0)) (by (with_reducible repeat (first | refine blk_drewN ?_ _ | refine blk_drew ?_ | refine blk_alloc ?_ _)); refine blk_far ?_ NB733_770.out _; (with_reducible repeat (first | refine blk_drewN ?_ _ | refine blk_drew ?_ | refine blk_alloc ?_ _)); exact BK733.out) hb); have n6_ := Aside0.mk (blk_below (g := gb742) (o := .cells #[.slice Ao20 t738.length co20] 30 (0, 0)) (by (with_reducible repeat (first | refine blk_drewN ?_ _ | refine blk_drew ?_ | refine blk_alloc ?_ _)); refine blk_far ?_ NB742_770.out _; (with_reducible repeat (first | refine blk_drewN ?_ _ | refine blk_drew ?_ | refine blk_alloc ?_ _)); exact BK742.out) hb); have n7_ := Aside0.mk (blk_below (g := gb746) (o := .cells #[.slice Ao26 t758.length co26] 30 (0, 0)) (by (with_reducible repeat (first | refine blk_drewN ?_ _ | refine blk_drew ?_ | refine blk_alloc ?_ _)); refine blk_far ?_ NB746_770.out _; (with_reducible repeat (first | refine blk_drewN ?_ _ | refine blk_drew ?_ | refine blk_alloc ?_ _)); exact BK746.out) hb); have n8_ := Aside0.mk (blk_below (g := gb751) (o := .cells #[.slice Ao32 t747.length co32] 30 (0, 0)) (by (with_reducible repeat (first | refine blk_drewN ?_ _ | refine blk_drew ?_ | refine blk_alloc ?_ _)); refine blk_far ?_ NB751_770.out _; (with_reducible repeat (first | refine blk_drewN ?_ _ | refine blk_drew ?_ | refine blk_alloc ?_ _)); exact BK751.out) hb); have n9_ := Aside0.mk (blk_below (g := gb770) (o := .cells #[.slice Ao118 t766.length co118] 30 (0, 0)) (by (with_reducible repeat (first | refine blk_drewN ?_ _ | refine blk_drew ?_ | refine blk_alloc ?_ _)); refine blk_put (cs := #[.slice none 0 0]) ?_ 0 _ rfl; (with_reducible repeat (first | refine blk_drewN ?_ _ | refine blk_drew ?_ | refine blk_alloc ?_ _)); exact BK770.out) hb); have n10_ := Aside0.mk (below_step (by repeat (first | (with_reducible first | exact HB.out | apply below_alloc | apply pw_below_drewN | apply below_drew1 | refine below_set ?_ GE733.out | refine below_set ?_ GE742.out | refine below_set ?_ GE746.out | refine below_set ?_ GE751.out | refine below_set ?_ GE770.out) | exact HB.out)) hb); clear HO_743000; clear HO_747000; clear HO_752000; clear HO765; clear HO768; clear BK733; clear BK742; clear BK746; clear BK751; clear BK770; clear HB; have HO_743000 := n0_; have HO_747000 := n1_; have HO_752000 := n2_; have HO765 := n3_; have HO768 := n4_; have BK733 := n5_; have BK742 := n6_; have BK746 := n7_; have BK751 := n8_; have BK770 := n9_; have HB := n10_; clear n0_ n1_ n2_ n3_ n4_ n5_ n6_ n7_ n8_ n9_ n10_; (try clear hb); (try clear hb2); (try clear hk); (try clear hi)))
                          go_meet
                          case rel => exact ⟨_, ((t769 != t741)), (by first | rfl | (simp; done) | (simp [*]; done)), H', ⟨by have := HJ10.out; have := HJ59.out; first | omega | exact Nat.le_refl _⟩, ⟨by (try simp only [hl747000_59]); (with_reducible repeat (first | apply Kd.R_alloc | apply Kd.R_drewN | apply Kd.R_drew)); exact Kd.R_mono HO_743000.out (fun _ hk => ⟨hk.1.1.1, ⟨hk.1.1.2, hk.2⟩⟩)⟩, ⟨by (try simp only [hl747000_59]); (with_reducible repeat (first | apply Kd.R_alloc | apply Kd.R_drewN | apply Kd.R_drew)); exact Kd.R_mono HO_747000.out (fun _ hk => ⟨hk.1.1.1, ⟨hk.1.1.2, hk.2⟩⟩)⟩, ⟨by (try simp only [hl747000_59]); (with_reducible repeat (first | apply Kd.R_alloc | apply Kd.R_drewN | apply Kd.R_drew)); exact Kd.R_mono HO_752000.out (fun _ hk => ⟨hk.1.1.1, ⟨hk.1.1.2, hk.2⟩⟩)⟩, ⟨by (try simp only [hl747000_59]); (with_reducible repeat (first | apply Kd.R_alloc | apply Kd.R_drewN | apply Kd.R_drew)); exact Kd.R_mono HO768.out (fun _ hk => ⟨hk.1.1.1.2, ⟨hk.1.1.2, hk.1.2⟩⟩)⟩, ⟨by (try simp only [hl747000_59]); (with_reducible repeat (first | refine blk_drewN ?_ _ | refine blk_drew ?_ | refine blk_alloc ?_ _)); exact BK733.out⟩, ⟨by (try simp only [hl747000_59]); (with_reducible repeat (first | refine blk_drewN ?_ _ | refine blk_drew ?_ | refine blk_alloc ?_ _)); exact BK742.out⟩, ⟨by (try simp only [hl747000_59]); (with_reducible repeat (first | refine blk_drewN ?_ _ | refine blk_drew ?_ | refine blk_alloc ?_ _)); exact BK746.out⟩, ⟨by (try simp only [hl747000_59]); (with_reducible repeat (first | refine blk_drewN ?_ _ | refine blk_drew ?_ | refine blk_alloc ?_ _)); exact BK751.out⟩, ⟨by (try simp only [hl747000_59]); (with_reducible repeat (first | refine blk_drewN ?_ _ | refine blk_drew ?_ | refine blk_alloc ?_ _)); exact BK770.out⟩, ⟨by repeat (first | (with_reducible first | exact HB.out | apply below_alloc | apply pw_below_drewN | apply below_drew1 | refine below_set ?_ GE733.out | refine below_set ?_ GE742.out | refine below_set ?_ GE746.out | refine below_set ?_ GE751.out | refine below_set ?_ GE770.out) | exact HB.out)⟩⟩
                        · replace c125 := Bool.eq_false_iff.mpr c125
                          subst c125
                          have H1 : (laws_FnExactFirstWords.j2 kj59 t760 true t761) = some r := by rw [if_neg (show ¬ (false = true) by decide)] at H; exact H
                          clear H
                          have H := H1
                          clear H1
                          have H' := Aside0.mk H
                          clear H
                          have hnb136 := NB770_733.out
                          have hnc136 := NB733_770.out
                          have hnb137 := NB770_742.out
                          have hnc137 := NB742_770.out
                          have hnb138 := NB770_746.out
                          have hnc138 := NB746_770.out
                          have hnb139 := NB770_751.out
                          have hnc139 := NB751_770.out
                          have hcz140_0 : w117.cell? ⟨gb770, 0, none⟩ = some (.slice none 0 0) := (blk_cell BK770.out 0).trans rfl
                          have hfz140_0 := blk_frozen BK770.out 0
                          have hnb141 := NB742_733.out
                          have hnc141 := NB733_742.out
                          have hnb142 := NB742_746.out
                          have hnc142 := NB746_742.out
                          have hnb143 := NB742_751.out
                          have hnc143 := NB751_742.out
                          have hcz144_0 : w117.cell? ⟨gb742, 0, none⟩ = some (.slice Ao20 t738.length co20) := (blk_cell BK742.out 0).trans rfl
                          have hfz144_0 := blk_frozen BK742.out 0
                          go_wp2_with (first | ((with_reducible refine gate_callee (f := 19) rfl ?_); refine goesL_ (some 81) rfl rfl Try.func19 (by kernel_rfl) rfl #[.agg #[.slice Ao118 t766.length co118], .agg #[.slice Ao20 t738.length co20]] rfl (by (try simp only [List.map_toArray, List.map_cons, List.map_nil]); first | done | rfl | (simp only [List.length_drop, List.length_take]; rfl)) ?_; (with_reducible refine (laws_eqTrie.calls kj59 _ _ t766 _ _ t738 false _ ?side1 ?side2 ?side3 ?side4 A124.out).mono ?_); (case side1 => refine (Kd.R_reads' (e := 86) (base := w.heap.size) (ok := fun k_ => ((((True ∧ some k_ ≠ (.slice Ao20 t738.length co20 : Value).ownBlock) ∧ some k_ ≠ (.slice Ao26 t758.length co26 : Value).ownBlock) ∧ some k_ ≠ (.slice Ao32 t747.length co32 : Value).ownBlock) ∧ some k_ ≠ (.slice Ao115 t763.length co115 : Value).ownBlock)) (n := t766.length) (c := co118) ?_).2.2; exact (by (with_reducible repeat (first | apply Kd.R_alloc | apply Kd.R_drewN | apply Kd.R_drew)); exact (Kd.R_mono (R_same_ (Kd.R_far (p := ⟨gb770, 0, none⟩) (Kd.R_types HO768.out BK770.out (by decide)) (fun _ hk => hk.2) (.slice Ao118 t766.length co118)) rfl) (fun _ h_ => h_.1)))); (case side2 => exact (Kd.R_reads' HO768.out).2.1); (case side3 => refine (Kd.R_reads' (e := 86) (base := w.heap.size) (ok := fun k_ => (((some k_ ≠ (.slice Ao26 t758.length co26 : Value).ownBlock ∧ some k_ ≠ (.slice Ao32 t747.length co32 : Value).ownBlock) ∧ some k_ ≠ (.slice Ao115 t763.length co115 : Value).ownBlock) ∧ some k_ ≠ (.slice Ao118 t766.length co118 : Value).ownBlock)) (n := t738.length) (c := co20) ?_).2.2; exact (by (with_reducible repeat (first | apply Kd.R_alloc | apply Kd.R_drewN | apply Kd.R_drew)); exact (Kd.R_mono (R_same_ (Kd.R_far (p := ⟨gb770, 0, none⟩) (Kd.R_types HO_743000.out BK770.out (by decide)) (fun _ hk => hk.2) (.slice Ao118 t766.length co118)) rfl) (fun _ h_ => h_.1)))); (case side4 => exact (Kd.R_reads' HO_743000.out).2.1); rintro e w145 ⟨rfl, hb⟩; refine ⟨_, rfl, ?_⟩; have n0_ := Aside0.mk (Kd.R_below (by (with_reducible repeat (first | apply Kd.R_alloc | apply Kd.R_drewN | apply Kd.R_drew)); exact (Kd.R_mono (R_same_ (Kd.R_far (p := ⟨gb770, 0, none⟩) (Kd.R_types HO_743000.out BK770.out (by decide)) (fun _ hk => hk.2) (.slice Ao118 t766.length co118)) rfl) (fun _ h_ => h_.1))) hb); have n1_ := Aside0.mk (Kd.R_below (by (with_reducible repeat (first | apply Kd.R_alloc | apply Kd.R_drewN | apply Kd.R_drew)); exact (Kd.R_mono (R_same_ (Kd.R_far (p := ⟨gb770, 0, none⟩) (Kd.R_types HO_747000.out BK770.out (by decide)) (fun _ hk => hk.2) (.slice Ao118 t766.length co118)) rfl) (fun _ h_ => h_.1))) hb); have n2_ := Aside0.mk (Kd.R_below (by (with_reducible repeat (first | apply Kd.R_alloc | apply Kd.R_drewN | apply Kd.R_drew)); exact (Kd.R_mono (R_same_ (Kd.R_far (p := ⟨gb770, 0, none⟩) (Kd.R_types HO_752000.out BK770.out (by decide)) (fun _ hk => hk.2) (.slice Ao118 t766.length co118)) rfl) (fun _ h_ => h_.1))) hb); have n3_ := Aside0.mk (Kd.R_below (by (with_reducible repeat (first | apply Kd.R_alloc | apply Kd.R_drewN | apply Kd.R_drew)); exact (Kd.R_mono (R_same_ (Kd.R_far (p := ⟨gb770, 0, none⟩) (Kd.R_types HO765.out BK770.out (by decide)) (fun _ hk => hk.2) (.slice Ao118 t766.length co118)) rfl) (fun _ h_ => h_.1))) hb); have n4_ := Aside0.mk (Kd.R_below (by (with_reducible repeat (first | apply Kd.R_alloc | apply Kd.R_drewN | apply Kd.R_drew)); exact (Kd.R_mono (R_same_ (Kd.R_far (p := ⟨gb770, 0, none⟩) (Kd.R_types HO768.out BK770.out (by decide)) (fun _ hk => hk.2) (.slice Ao118 t766.length co118)) rfl) (fun _ h_ => h_.1))) hb); have n5_ := Aside0.mk (blk_below (g := gb733) (o := .cells #[.slice A0_0 l0_0.length c0_0] 24 (0, 0)) (by (with_reducible repeat (first | refine blk_drewN ?_ _ | refine blk_drew ?_ | refine blk_alloc ?_ _)); refine blk_far ?_ NB733_770.out _; (with_reducible repeat (first | refine blk_drewN ?_ _ | refine blk_drew ?_ | refine blk_alloc ?_ _)); exact BK733.out) hb); have n6_ := Aside0.mk (blk_below (g := gb742) (o := .cells #[.slice Ao20 t738.length co20] 30 (0, 0)) (by (with_reducible repeat (first | refine blk_drewN ?_ _ | refine blk_drew ?_ | refine blk_alloc ?_ _)); refine blk_far ?_ NB742_770.out _; (with_reducible repeat (first | refine blk_drewN ?_ _ | refine blk_drew ?_ | refine blk_alloc ?_ _)); exact BK742.out) hb); have n7_ := Aside0.mk (blk_below (g := gb746) (o := .cells #[.slice Ao26 t758.length co26] 30 (0, 0)) (by (with_reducible repeat (first | refine blk_drewN ?_ _ | refine blk_drew ?_ | refine blk_alloc ?_ _)); refine blk_far ?_ NB746_770.out _; (with_reducible repeat (first | refine blk_drewN ?_ _ | refine blk_drew ?_ | refine blk_alloc ?_ _)); exact BK746.out) hb); have n8_ := Aside0.mk (blk_below (g := gb751) (o := .cells #[.slice Ao32 t747.length co32] 30 (0, 0)) (by (with_reducible repeat (first | refine blk_drewN ?_ _ | refine blk_drew ?_ | refine blk_alloc ?_ _)); refine blk_far ?_ NB751_770.out _; (with_reducible repeat (first | refine blk_drewN ?_ _ | refine blk_drew ?_ | refine blk_alloc ?_ _)); exact BK751.out) hb); have n9_ := Aside0.mk (blk_below (g := gb770) (o := .cells #[.slice Ao118 t766.length co118] 30 (0, 0)) (by (with_reducible repeat (first | refine blk_drewN ?_ _ | refine blk_drew ?_ | refine blk_alloc ?_ _)); refine blk_put (cs := #[.slice none 0 0]) ?_ 0 _ rfl; (with_reducible repeat (first | refine blk_drewN ?_ _ | refine blk_drew ?_ | refine blk_alloc ?_ _)); exact BK770.out) hb); have n10_ := Aside0.mk (below_step (by repeat (first | (with_reducible first | exact HB.out | apply below_alloc | apply pw_below_drewN | apply below_drew1 | refine below_set ?_ GE733.out | refine below_set ?_ GE742.out | refine below_set ?_ GE746.out | refine below_set ?_ GE751.out | refine below_set ?_ GE770.out) | exact HB.out)) hb); clear HO_743000; clear HO_747000; clear HO_752000; clear HO765; clear HO768; clear BK733; clear BK742; clear BK746; clear BK751; clear BK770; clear HB; have HO_743000 := n0_; have HO_747000 := n1_; have HO_752000 := n2_; have HO765 := n3_; have HO768 := n4_; have BK733 := n5_; have BK742 := n6_; have BK746 := n7_; have BK751 := n8_; have BK770 := n9_; have HB := n10_; clear n0_ n1_ n2_ n3_ n4_ n5_ n6_ n7_ n8_ n9_ n10_; (try clear hb); (try clear hb2); (try clear hk); (try clear hi)))
                          go_meet
                          case rel => exact ⟨_, (true), (by first | rfl | (simp; done) | (simp [*]; done)), H', ⟨by have := HJ10.out; have := HJ59.out; first | omega | exact Nat.le_refl _⟩, ⟨by (try simp only [hl747000_59]); (with_reducible repeat (first | apply Kd.R_alloc | apply Kd.R_drewN | apply Kd.R_drew)); exact Kd.R_mono HO_743000.out (fun _ hk => ⟨hk.1.1.1, ⟨hk.1.1.2, hk.2⟩⟩)⟩, ⟨by (try simp only [hl747000_59]); (with_reducible repeat (first | apply Kd.R_alloc | apply Kd.R_drewN | apply Kd.R_drew)); exact Kd.R_mono HO_747000.out (fun _ hk => ⟨hk.1.1.1, ⟨hk.1.1.2, hk.2⟩⟩)⟩, ⟨by (try simp only [hl747000_59]); (with_reducible repeat (first | apply Kd.R_alloc | apply Kd.R_drewN | apply Kd.R_drew)); exact Kd.R_mono HO_752000.out (fun _ hk => ⟨hk.1.1.1, ⟨hk.1.1.2, hk.2⟩⟩)⟩, ⟨by (try simp only [hl747000_59]); (with_reducible repeat (first | apply Kd.R_alloc | apply Kd.R_drewN | apply Kd.R_drew)); exact Kd.R_mono HO768.out (fun _ hk => ⟨hk.1.1.1.2, ⟨hk.1.1.2, hk.1.2⟩⟩)⟩, ⟨by (try simp only [hl747000_59]); (with_reducible repeat (first | refine blk_drewN ?_ _ | refine blk_drew ?_ | refine blk_alloc ?_ _)); exact BK733.out⟩, ⟨by (try simp only [hl747000_59]); (with_reducible repeat (first | refine blk_drewN ?_ _ | refine blk_drew ?_ | refine blk_alloc ?_ _)); exact BK742.out⟩, ⟨by (try simp only [hl747000_59]); (with_reducible repeat (first | refine blk_drewN ?_ _ | refine blk_drew ?_ | refine blk_alloc ?_ _)); exact BK746.out⟩, ⟨by (try simp only [hl747000_59]); (with_reducible repeat (first | refine blk_drewN ?_ _ | refine blk_drew ?_ | refine blk_alloc ?_ _)); exact BK751.out⟩, ⟨by (try simp only [hl747000_59]); (with_reducible repeat (first | refine blk_drewN ?_ _ | refine blk_drew ?_ | refine blk_alloc ?_ _)); exact BK770.out⟩, ⟨by repeat (first | (with_reducible first | exact HB.out | apply below_alloc | apply pw_below_drewN | apply below_drew1 | refine below_set ?_ GE733.out | refine below_set ?_ GE742.out | refine below_set ?_ GE746.out | refine below_set ?_ GE751.out | refine below_set ?_ GE770.out) | exact HB.out)⟩⟩
                      case rest =>
                        clear HC103
                        try clear c1
                        try clear c2
                        try clear p2
                        try clear c3
                        try clear c3b0
                        try clear c4
                        try clear c5
                        try clear c6
                        try clear c7
                        try clear c8
                        try clear c9
                        try clear c10
                        try clear c11
                        try clear c12
                        try clear c13
                        try clear c14
                        try clear c15
                        try clear c17
                        try clear c19
                        try clear c21
                        try clear c27
                        try clear c28
                        try clear c33
                        try clear c34
                        try clear c35
                        try clear c38
                        try clear c39
                        try clear c40
                        try clear c41
                        try clear c42
                        try clear c43
                        try clear c44
                        try clear c47
                        try clear c48
                        try clear c49
                        try clear c51
                        try clear c52
                        try clear c55
                        try clear c58
                        try clear c65
                        try clear c66
                        try clear c67
                        try clear c70
                        try clear c70b0
                        try clear c72
                        try clear c73
                        try clear c74
                        try clear c75
                        try clear c77
                        try clear c78
                        try clear c81
                        try clear c82
                        try clear c83
                        try clear c85
                        try clear c86
                        try clear c89
                        try clear c92
                        try clear c92b0
                        try clear c93
                        try clear c94
                        try clear c95
                        try clear c100
                        try clear c100b0
                        try clear c100b1
                        try clear c104
                        try clear c105
                        try clear c106
                        try clear c111
                        try clear c112
                        try clear c119
                        try clear c120
                        try clear c121
                        try clear c122
                        try clear c125
                        try clear c126
                        try clear c127
                        try clear c128
                        try clear c129
                        try clear c131
                        try clear c132
                        try clear c133
                        try clear c136
                        try clear c137
                        try clear c138
                        try clear c139
                        try clear c141
                        try clear c142
                        try clear c143
                        try clear hcz107_0
                        try clear hcz109_0
                        try clear hcz113_0
                        try clear hcz123_0
                        try clear hcz130_0
                        try clear hcz134_0
                        try clear hcz13_0
                        try clear hcz140_0
                        try clear hcz144_0
                        try clear hcz15_0
                        try clear hcz22_0
                        try clear hcz23_0
                        try clear hcz29_0
                        try clear hcz36_0
                        try clear hcz42_0
                        try clear hcz45_0
                        try clear hcz50_0
                        try clear hcz53_0
                        try clear hcz5_0
                        try clear hcz68_0
                        try clear hcz76_0
                        try clear hcz79_0
                        try clear hcz84_0
                        try clear hcz87_0
                        try clear hcz96_0
                        try clear hcz98_0
                        try clear hfz107_0
                        try clear hfz109_0
                        try clear hfz113_0
                        try clear hfz123_0
                        try clear hfz130_0
                        try clear hfz134_0
                        try clear hfz13_0
                        try clear hfz140_0
                        try clear hfz144_0
                        try clear hfz15_0
                        try clear hfz22_0
                        try clear hfz23_0
                        try clear hfz29_0
                        try clear hfz36_0
                        try clear hfz42_0
                        try clear hfz45_0
                        try clear hfz50_0
                        try clear hfz53_0
                        try clear hfz5_0
                        try clear hfz68_0
                        try clear hfz76_0
                        try clear hfz79_0
                        try clear hfz84_0
                        try clear hfz87_0
                        try clear hfz96_0
                        try clear hfz98_0
                        try clear p2
                        obtain ⟨kq, x87_102, rfl, HA, HJ102, HO_743000, HO_747000, HO_752000, HO_771000, BK733, BK742, BK746, BK751, BK770, HB⟩ := hcut
                        have hl752000_102 := (Kd.R_reads' HO_752000.out).1
                        rw [hl752000_102] at HO_752000
                        (try simp only [hl752000_102])
                        (try simp only [hl752000_102] at BK733)
                        (try simp only [hl752000_102] at BK742)
                        (try simp only [hl752000_102] at BK746)
                        (try simp only [hl752000_102] at BK751)
                        (try simp only [hl752000_102] at BK770)
                        (try simp only [hl752000_102] at HO_743000)
                        (try simp only [hl752000_102] at HO_747000)
                        (try simp only [hl752000_102] at HO_771000)
                        cases kq with
                        | zero => exact absurd HA.out (by simp [laws_FnExactFirstWords.j2])
                        | succ kj102 =>
                          have H := HA.out
                          clear HA
                          simp only [laws_FnExactFirstWords.j2] at H
                          by_cases c146 : x87_102 = true
                          · subst c146
                            have H1 : (some false) = some r := by rw [if_pos rfl] at H; exact H
                            clear H
                            have H := H1
                            clear H1
                            obtain rfl := Option.some.inj H
                            go_wp2
                            go_ret
                            exact ⟨by first | rfl | (simp [errW_none, errW_some] <;> rfl) | (simp [*, errW_none, errW_some] <;> rfl), by repeat (first | (with_reducible first | exact HB.out | apply below_alloc | apply pw_below_drewN | apply below_drew1 | refine below_set ?_ GE733.out | refine below_set ?_ GE742.out | refine below_set ?_ GE746.out | refine below_set ?_ GE751.out | refine below_set ?_ GE770.out) | exact HB.out)⟩
                          · replace c146 := Bool.eq_false_iff.mpr c146
                            subst c146
                            have H1 : ((laws_heldTrie.f kj102 t761 1).bind fun t772 => (if t772 < 0 then (some false) else (if t772 = t760 then (some true) else (some false)))) = some r := by rw [if_neg (show ¬ (false = true) by decide)] at H; exact H
                            clear H
                            have H := H1
                            clear H1
                            replace H := Option.bind_eq_some_iff.mp H
                            obtain ⟨t772, A1470, H⟩ := H
                            replace H : (if t772 < 0 then (some false) else (if t772 = t760 then (some true) else (some false))) = some r := H
                            have A147 := Aside0.mk A1470
                            clear A1470
                            by_cases c148 : t772 < 0
                            · rw [if_pos c148] at H
                              have c148b0 : decide (t772 < 0) = true := decide_eq_true c148
                              clear c148
                              obtain rfl := Option.some.inj H
                              have hnb149 := NB751_733.out
                              have hnc149 := NB733_751.out
                              have hnb150 := NB751_742.out
                              have hnc150 := NB742_751.out
                              have hnb151 := NB751_746.out
                              have hnc151 := NB746_751.out
                              have hnb152 := NB751_770.out
                              have hnc152 := NB770_751.out
                              have hcz153_0 : wc.cell? ⟨gb751, 0, none⟩ = some (.slice Ao32 t761.length co32) := (blk_cell BK751.out 0).trans rfl
                              have hfz153_0 := blk_frozen BK751.out 0
                              go_wp2_with (first | ((with_reducible refine gate_callee (f := 38) rfl ?_); refine goesL_ (some 90) rfl rfl Try.func38 (by kernel_rfl) rfl #[.agg #[.slice Ao32 t761.length co32], .int .i64 1] rfl (by (try simp only [List.map_toArray, List.map_cons, List.map_nil]); first | done | rfl | (simp only [List.length_drop, List.length_take]; rfl)) ?_; (with_reducible refine (laws_heldTrie.calls kj102 _ _ t761 1 t772 _ ?side1 ?side2 A147.out).mono ?_); (case side1 => repeat (first | exact (Kd.R_reads' HO_752000.out).2.2 | (with_reducible refine Kd.C_alloc ?_ _) | (with_reducible refine Kd.C_drewN ?_ _) | (with_reducible refine Kd.C_drew ?_))); (case side2 => exact (Kd.R_reads' HO_752000.out).2.1); rintro e w154 ⟨rfl, hb⟩; refine ⟨_, rfl, ?_⟩; have n0_ := Aside0.mk (Kd.R_below (by (with_reducible repeat (first | apply Kd.R_alloc | apply Kd.R_drewN | apply Kd.R_drew)); exact HO_743000.out) hb); have n1_ := Aside0.mk (Kd.R_below (by (with_reducible repeat (first | apply Kd.R_alloc | apply Kd.R_drewN | apply Kd.R_drew)); exact HO_747000.out) hb); have n2_ := Aside0.mk (Kd.R_below (by (with_reducible repeat (first | apply Kd.R_alloc | apply Kd.R_drewN | apply Kd.R_drew)); exact HO_752000.out) hb); have n3_ := Aside0.mk (Kd.R_below (by (with_reducible repeat (first | apply Kd.R_alloc | apply Kd.R_drewN | apply Kd.R_drew)); exact HO_771000.out) hb); have n4_ := Aside0.mk (blk_below (g := gb733) (o := .cells #[.slice A0_0 l0_0.length c0_0] 24 (0, 0)) (by (with_reducible repeat (first | refine blk_drewN ?_ _ | refine blk_drew ?_ | refine blk_alloc ?_ _)); exact BK733.out) hb); have n5_ := Aside0.mk (blk_below (g := gb742) (o := .cells #[.slice Ao20 t738.length co20] 30 (0, 0)) (by (with_reducible repeat (first | refine blk_drewN ?_ _ | refine blk_drew ?_ | refine blk_alloc ?_ _)); exact BK742.out) hb); have n6_ := Aside0.mk (blk_below (g := gb746) (o := .cells #[.slice Ao26 t758.length co26] 30 (0, 0)) (by (with_reducible repeat (first | refine blk_drewN ?_ _ | refine blk_drew ?_ | refine blk_alloc ?_ _)); exact BK746.out) hb); have n7_ := Aside0.mk (blk_below (g := gb751) (o := .cells #[.slice Ao32 t761.length co32] 30 (0, 0)) (by (with_reducible repeat (first | refine blk_drewN ?_ _ | refine blk_drew ?_ | refine blk_alloc ?_ _)); exact BK751.out) hb); have n8_ := Aside0.mk (blk_below (g := gb770) (o := .cells #[.slice Ao118 t766.length co118] 30 (0, 0)) (by (with_reducible repeat (first | refine blk_drewN ?_ _ | refine blk_drew ?_ | refine blk_alloc ?_ _)); exact BK770.out) hb); have n9_ := Aside0.mk (below_step (by repeat (first | (with_reducible first | exact HB.out | apply below_alloc | apply pw_below_drewN | apply below_drew1 | refine below_set ?_ GE733.out | refine below_set ?_ GE742.out | refine below_set ?_ GE746.out | refine below_set ?_ GE751.out | refine below_set ?_ GE770.out) | exact HB.out)) hb); clear HO_743000; clear HO_747000; clear HO_752000; clear HO_771000; clear BK733; clear BK742; clear BK746; clear BK751; clear BK770; clear HB; have HO_743000 := n0_; have HO_747000 := n1_; have HO_752000 := n2_; have HO_771000 := n3_; have BK733 := n4_; have BK742 := n5_; have BK746 := n6_; have BK751 := n7_; have BK770 := n8_; have HB := n9_; clear n0_ n1_ n2_ n3_ n4_ n5_ n6_ n7_ n8_ n9_; (try clear hb); (try clear hb2); (try clear hk); (try clear hi)))
                              go_ret
                              exact ⟨by first | rfl | (simp [errW_none, errW_some] <;> rfl) | (simp [*, errW_none, errW_some] <;> rfl), by repeat (first | (with_reducible first | exact HB.out | apply below_alloc | apply pw_below_drewN | apply below_drew1 | refine below_set ?_ GE733.out | refine below_set ?_ GE742.out | refine below_set ?_ GE746.out | refine below_set ?_ GE751.out | refine below_set ?_ GE770.out) | exact HB.out)⟩
                            · rw [if_neg c148] at H
                              have c148b0 : decide (t772 < 0) = false := decide_eq_false c148
                              clear c148
                              by_cases c155 : t772 = t760
                              · rw [if_pos c155] at H
                                have c155b0 : (t772 == t760) = true := beq_iff_eq.mpr c155
                                have c155b1 : (t772 != t760) = false := bne_eq_false_iff_eq.mpr c155
                                clear c155
                                obtain rfl := Option.some.inj H
                                have hnb156 := NB751_733.out
                                have hnc156 := NB733_751.out
                                have hnb157 := NB751_742.out
                                have hnc157 := NB742_751.out
                                have hnb158 := NB751_746.out
                                have hnc158 := NB746_751.out
                                have hnb159 := NB751_770.out
                                have hnc159 := NB770_751.out
                                have hcz160_0 : wc.cell? ⟨gb751, 0, none⟩ = some (.slice Ao32 t761.length co32) := (blk_cell BK751.out 0).trans rfl
                                have hfz160_0 := blk_frozen BK751.out 0
                                go_wp2_with (first | ((with_reducible refine gate_callee (f := 38) rfl ?_); refine goesL_ (some 90) rfl rfl Try.func38 (by kernel_rfl) rfl #[.agg #[.slice Ao32 t761.length co32], .int .i64 1] rfl (by (try simp only [List.map_toArray, List.map_cons, List.map_nil]); first | done | rfl | (simp only [List.length_drop, List.length_take]; rfl)) ?_; (with_reducible refine (laws_heldTrie.calls kj102 _ _ t761 1 t772 _ ?side1 ?side2 A147.out).mono ?_); (case side1 => repeat (first | exact (Kd.R_reads' HO_752000.out).2.2 | (with_reducible refine Kd.C_alloc ?_ _) | (with_reducible refine Kd.C_drewN ?_ _) | (with_reducible refine Kd.C_drew ?_))); (case side2 => exact (Kd.R_reads' HO_752000.out).2.1); rintro e w161 ⟨rfl, hb⟩; refine ⟨_, rfl, ?_⟩; have n0_ := Aside0.mk (Kd.R_below (by (with_reducible repeat (first | apply Kd.R_alloc | apply Kd.R_drewN | apply Kd.R_drew)); exact HO_743000.out) hb); have n1_ := Aside0.mk (Kd.R_below (by (with_reducible repeat (first | apply Kd.R_alloc | apply Kd.R_drewN | apply Kd.R_drew)); exact HO_747000.out) hb); have n2_ := Aside0.mk (Kd.R_below (by (with_reducible repeat (first | apply Kd.R_alloc | apply Kd.R_drewN | apply Kd.R_drew)); exact HO_752000.out) hb); have n3_ := Aside0.mk (Kd.R_below (by (with_reducible repeat (first | apply Kd.R_alloc | apply Kd.R_drewN | apply Kd.R_drew)); exact HO_771000.out) hb); have n4_ := Aside0.mk (blk_below (g := gb733) (o := .cells #[.slice A0_0 l0_0.length c0_0] 24 (0, 0)) (by (with_reducible repeat (first | refine blk_drewN ?_ _ | refine blk_drew ?_ | refine blk_alloc ?_ _)); exact BK733.out) hb); have n5_ := Aside0.mk (blk_below (g := gb742) (o := .cells #[.slice Ao20 t738.length co20] 30 (0, 0)) (by (with_reducible repeat (first | refine blk_drewN ?_ _ | refine blk_drew ?_ | refine blk_alloc ?_ _)); exact BK742.out) hb); have n6_ := Aside0.mk (blk_below (g := gb746) (o := .cells #[.slice Ao26 t758.length co26] 30 (0, 0)) (by (with_reducible repeat (first | refine blk_drewN ?_ _ | refine blk_drew ?_ | refine blk_alloc ?_ _)); exact BK746.out) hb); have n7_ := Aside0.mk (blk_below (g := gb751) (o := .cells #[.slice Ao32 t761.length co32] 30 (0, 0)) (by (with_reducible repeat (first | refine blk_drewN ?_ _ | refine blk_drew ?_ | refine blk_alloc ?_ _)); exact BK751.out) hb); have n8_ := Aside0.mk (blk_below (g := gb770) (o := .cells #[.slice Ao118 t766.length co118] 30 (0, 0)) (by (with_reducible repeat (first | refine blk_drewN ?_ _ | refine blk_drew ?_ | refine blk_alloc ?_ _)); exact BK770.out) hb); have n9_ := Aside0.mk (below_step (by repeat (first | (with_reducible first | exact HB.out | apply below_alloc | apply pw_below_drewN | apply below_drew1 | refine below_set ?_ GE733.out | refine below_set ?_ GE742.out | refine below_set ?_ GE746.out | refine below_set ?_ GE751.out | refine below_set ?_ GE770.out) | exact HB.out)) hb); clear HO_743000; clear HO_747000; clear HO_752000; clear HO_771000; clear BK733; clear BK742; clear BK746; clear BK751; clear BK770; clear HB; have HO_743000 := n0_; have HO_747000 := n1_; have HO_752000 := n2_; have HO_771000 := n3_; have BK733 := n4_; have BK742 := n5_; have BK746 := n6_; have BK751 := n7_; have BK770 := n8_; have HB := n9_; clear n0_ n1_ n2_ n3_ n4_ n5_ n6_ n7_ n8_ n9_; (try clear hb); (try clear hb2); (try clear hk); (try clear hi)))
                                go_ret
                                exact ⟨by first | rfl | (simp [errW_none, errW_some] <;> rfl) | (simp [*, errW_none, errW_some] <;> rfl), by repeat (first | (with_reducible first | exact HB.out | apply below_alloc | apply pw_below_drewN | apply below_drew1 | refine below_set ?_ GE733.out | refine below_set ?_ GE742.out | refine below_set ?_ GE746.out | refine below_set ?_ GE751.out | refine below_set ?_ GE770.out) | exact HB.out)⟩
                              · rw [if_neg c155] at H
                                have c155b0 : (t772 == t760) = false := beq_eq_false_iff_ne.mpr c155
                                have c155b1 : (t772 != t760) = true := bne_iff_ne.mpr c155
                                obtain rfl := Option.some.inj H
                                have hnb162 := NB751_733.out
                                have hnc162 := NB733_751.out
                                have hnb163 := NB751_742.out
                                have hnc163 := NB742_751.out
                                have hnb164 := NB751_746.out
                                have hnc164 := NB746_751.out
                                have hnb165 := NB751_770.out
                                have hnc165 := NB770_751.out
                                have hcz166_0 : wc.cell? ⟨gb751, 0, none⟩ = some (.slice Ao32 t761.length co32) := (blk_cell BK751.out 0).trans rfl
                                have hfz166_0 := blk_frozen BK751.out 0
                                go_wp2_with (first | ((with_reducible refine gate_callee (f := 38) rfl ?_); refine goesL_ (some 90) rfl rfl Try.func38 (by kernel_rfl) rfl #[.agg #[.slice Ao32 t761.length co32], .int .i64 1] rfl (by (try simp only [List.map_toArray, List.map_cons, List.map_nil]); first | done | rfl | (simp only [List.length_drop, List.length_take]; rfl)) ?_; (with_reducible refine (laws_heldTrie.calls kj102 _ _ t761 1 t772 _ ?side1 ?side2 A147.out).mono ?_); (case side1 => repeat (first | exact (Kd.R_reads' HO_752000.out).2.2 | (with_reducible refine Kd.C_alloc ?_ _) | (with_reducible refine Kd.C_drewN ?_ _) | (with_reducible refine Kd.C_drew ?_))); (case side2 => exact (Kd.R_reads' HO_752000.out).2.1); rintro e w167 ⟨rfl, hb⟩; refine ⟨_, rfl, ?_⟩; have n0_ := Aside0.mk (Kd.R_below (by (with_reducible repeat (first | apply Kd.R_alloc | apply Kd.R_drewN | apply Kd.R_drew)); exact HO_743000.out) hb); have n1_ := Aside0.mk (Kd.R_below (by (with_reducible repeat (first | apply Kd.R_alloc | apply Kd.R_drewN | apply Kd.R_drew)); exact HO_747000.out) hb); have n2_ := Aside0.mk (Kd.R_below (by (with_reducible repeat (first | apply Kd.R_alloc | apply Kd.R_drewN | apply Kd.R_drew)); exact HO_752000.out) hb); have n3_ := Aside0.mk (Kd.R_below (by (with_reducible repeat (first | apply Kd.R_alloc | apply Kd.R_drewN | apply Kd.R_drew)); exact HO_771000.out) hb); have n4_ := Aside0.mk (blk_below (g := gb733) (o := .cells #[.slice A0_0 l0_0.length c0_0] 24 (0, 0)) (by (with_reducible repeat (first | refine blk_drewN ?_ _ | refine blk_drew ?_ | refine blk_alloc ?_ _)); exact BK733.out) hb); have n5_ := Aside0.mk (blk_below (g := gb742) (o := .cells #[.slice Ao20 t738.length co20] 30 (0, 0)) (by (with_reducible repeat (first | refine blk_drewN ?_ _ | refine blk_drew ?_ | refine blk_alloc ?_ _)); exact BK742.out) hb); have n6_ := Aside0.mk (blk_below (g := gb746) (o := .cells #[.slice Ao26 t758.length co26] 30 (0, 0)) (by (with_reducible repeat (first | refine blk_drewN ?_ _ | refine blk_drew ?_ | refine blk_alloc ?_ _)); exact BK746.out) hb); have n7_ := Aside0.mk (blk_below (g := gb751) (o := .cells #[.slice Ao32 t761.length co32] 30 (0, 0)) (by (with_reducible repeat (first | refine blk_drewN ?_ _ | refine blk_drew ?_ | refine blk_alloc ?_ _)); exact BK751.out) hb); have n8_ := Aside0.mk (blk_below (g := gb770) (o := .cells #[.slice Ao118 t766.length co118] 30 (0, 0)) (by (with_reducible repeat (first | refine blk_drewN ?_ _ | refine blk_drew ?_ | refine blk_alloc ?_ _)); exact BK770.out) hb); have n9_ := Aside0.mk (below_step (by repeat (first | (with_reducible first | exact HB.out | apply below_alloc | apply pw_below_drewN | apply below_drew1 | refine below_set ?_ GE733.out | refine below_set ?_ GE742.out | refine below_set ?_ GE746.out | refine below_set ?_ GE751.out | refine below_set ?_ GE770.out) | exact HB.out)) hb); clear HO_743000; clear HO_747000; clear HO_752000; clear HO_771000; clear BK733; clear BK742; clear BK746; clear BK751; clear BK770; clear HB; have HO_743000 := n0_; have HO_747000 := n1_; have HO_752000 := n2_; have HO_771000 := n3_; have BK733 := n4_; have BK742 := n5_; have BK746 := n6_; have BK751 := n7_; have BK770 := n8_; have HB := n9_; clear n0_ n1_ n2_ n3_ n4_ n5_ n6_ n7_ n8_ n9_; (try clear hb); (try clear hb2); (try clear hk); (try clear hi)))
                                go_ret
                                exact ⟨by first | rfl | (simp [errW_none, errW_some] <;> rfl) | (simp [*, errW_none, errW_some] <;> rfl), by repeat (first | (with_reducible first | exact HB.out | apply below_alloc | apply pw_below_drewN | apply below_drew1 | refine below_set ?_ GE733.out | refine below_set ?_ GE742.out | refine below_set ?_ GE746.out | refine below_set ?_ GE751.out | refine below_set ?_ GE770.out) | exact HB.out)⟩
                    · rw [if_neg c100] at H
                      have c100b0 : (t762 == t760) = false := beq_eq_false_iff_ne.mpr c100
                      have c100b1 : (t762 != t760) = true := bne_iff_ne.mpr c100
                      obtain rfl := Option.some.inj H
                      have hnb168 := NB751_733.out
                      have hnc168 := NB733_751.out
                      have hnb169 := NB751_742.out
                      have hnc169 := NB742_751.out
                      have hnb170 := NB751_746.out
                      have hnc170 := NB746_751.out
                      have hcz171_0 : wc.cell? ⟨gb751, 0, none⟩ = some (.slice Ao32 t747.length co32) := (blk_cell BK751.out 0).trans rfl
                      have hfz171_0 := blk_frozen BK751.out 0
                      go_wp2_with (first | ((with_reducible refine gate_callee (f := 33) rfl ?_); refine goesL_ (some 64) rfl rfl Try.func33 (by kernel_rfl) rfl #[.agg #[.slice Ao32 t747.length co32], .int .i64 1] rfl (by (try simp only [List.map_toArray, List.map_cons, List.map_nil]); first | done | rfl | (simp only [List.length_drop, List.length_take]; rfl)) ?_; (with_reducible refine (laws_markTrie.calls kj59 (fun k_ => some k_ = (.slice Ao32 t747.length co32 : Value).ownBlock) (.slice Ao32 t747.length co32) t747 1 t760 t761 w _ ?side1 ?side2 A90.out).mono ?_); (case side1 => repeat (first | (with_reducible first | exact HB.out | apply below_alloc | apply pw_below_drewN | apply below_drew1 | refine below_set ?_ GE733.out | refine below_set ?_ GE742.out | refine below_set ?_ GE746.out | refine below_set ?_ GE751.out) | exact HB.out)); (case side2 => exact Kd.R_tight rfl HO_752000.out); rintro e w172 ⟨rfl, hy0, hb, hkp⟩; refine ⟨_, rfl, ?_⟩; have n0_ := Aside0.mk (Kd.R_mono (ok' := fun k_ => some k_ ≠ (.slice Ao26 t758.length co26 : Value).ownBlock ∧ some k_ ≠ (.slice Ao32 t747.length co32 : Value).ownBlock) (Kd.R_keptB (HO_743000.out) hkp (fun k_ hk_ hs_ => (hk_.2) hs_)) (fun k_ hk_ => ⟨hk_.1.1, hk_.1.2⟩)); have n1_ := Aside0.mk (Kd.R_mono (ok' := fun k_ => some k_ ≠ (.slice Ao20 t738.length co20 : Value).ownBlock ∧ some k_ ≠ (.slice Ao32 t747.length co32 : Value).ownBlock) (Kd.R_keptB (HO_747000.out) hkp (fun k_ hk_ hs_ => (hk_.2) hs_)) (fun k_ hk_ => ⟨hk_.1.1, hk_.1.2⟩)); have n2_ := Aside0.mk (Kd.R_reok rfl hy0 (fun k_ e_ => HO_752000.out.1 k_ e_)); have n3_ := Aside0.mk (blk_kept (by (with_reducible repeat (first | refine blk_drewN ?_ _ | refine blk_drew ?_ | refine blk_alloc ?_ _)); exact BK733.out) hkp (fun hs_ => (fun e_ => (Kd.R_ne HO_752000.out BK733.out (by decide)) e_) hs_)); have n4_ := Aside0.mk (blk_kept (by (with_reducible repeat (first | refine blk_drewN ?_ _ | refine blk_drew ?_ | refine blk_alloc ?_ _)); exact BK742.out) hkp (fun hs_ => (fun e_ => (Kd.R_ne HO_752000.out BK742.out (by decide)) e_) hs_)); have n5_ := Aside0.mk (blk_kept (by (with_reducible repeat (first | refine blk_drewN ?_ _ | refine blk_drew ?_ | refine blk_alloc ?_ _)); exact BK746.out) hkp (fun hs_ => (fun e_ => (Kd.R_ne HO_752000.out BK746.out (by decide)) e_) hs_)); have n6_ := Aside0.mk (blk_kept (by (with_reducible repeat (first | refine blk_drewN ?_ _ | refine blk_drew ?_ | refine blk_alloc ?_ _)); exact BK751.out) hkp (fun hs_ => (fun e_ => (Kd.R_ne HO_752000.out BK751.out (by decide)) e_) hs_)); have n7_ := Aside0.mk (hb); clear HO_743000; clear HO_747000; clear HO_752000; clear BK733; clear BK742; clear BK746; clear BK751; clear HB; have HO_743000 := n0_; have HO_747000 := n1_; have HO_752000 := n2_; have BK733 := n3_; have BK742 := n4_; have BK746 := n5_; have BK751 := n6_; have HB := n7_; clear n0_ n1_ n2_ n3_ n4_ n5_ n6_ n7_; (try clear hb); (try clear hkp); (try clear hy0); have hcz173_0 : w172.cell? ⟨gb751, 0, none⟩ = some (.slice Ao32 t747.length co32) := (blk_cell BK751.out 0).trans rfl; have hfz173_0 := blk_frozen BK751.out 0) | ((with_reducible refine gate_callee (f := 38) rfl ?_); refine goesL_ (some 67) rfl rfl Try.func38 (by kernel_rfl) rfl #[.agg #[.slice Ao32 t761.length co32], .int .i64 1] rfl (by (try simp only [List.map_toArray, List.map_cons, List.map_nil]); first | done | (rw [show t761.length = t747.length from (Kd.R_reads' HO_752000.out).1.symm] <;> rfl) | rfl | (simp only [List.length_drop, List.length_take]; rfl)) ?_; (with_reducible refine (laws_heldTrie.calls kj59 _ _ t761 1 t762 _ ?side1 ?side2 A91.out).mono ?_); (case side1 => repeat (first | exact (Kd.R_reads' HO_752000.out).2.2 | (with_reducible refine Kd.C_alloc ?_ _) | (with_reducible refine Kd.C_drewN ?_ _) | (with_reducible refine Kd.C_drew ?_))); (case side2 => rw [show t761.length = t747.length from (Kd.R_reads' HO_752000.out).1.symm]; exact (Kd.R_reads' HO_752000.out).2.1); rintro e w174 ⟨rfl, hb⟩; refine ⟨_, rfl, ?_⟩; have n0_ := Aside0.mk (Kd.R_below (by (with_reducible repeat (first | apply Kd.R_alloc | apply Kd.R_drewN | apply Kd.R_drew)); exact HO_743000.out) hb); have n1_ := Aside0.mk (Kd.R_below (by (with_reducible repeat (first | apply Kd.R_alloc | apply Kd.R_drewN | apply Kd.R_drew)); exact HO_747000.out) hb); have n2_ := Aside0.mk (Kd.R_below (by (with_reducible repeat (first | apply Kd.R_alloc | apply Kd.R_drewN | apply Kd.R_drew)); exact HO_752000.out) hb); have n3_ := Aside0.mk (blk_below (g := gb733) (o := .cells #[.slice A0_0 l0_0.length c0_0] 24 (0, 0)) (by (with_reducible repeat (first | refine blk_drewN ?_ _ | refine blk_drew ?_ | refine blk_alloc ?_ _)); exact BK733.out) hb); have n4_ := Aside0.mk (blk_below (g := gb742) (o := .cells #[.slice Ao20 t738.length co20] 30 (0, 0)) (by (with_reducible repeat (first | refine blk_drewN ?_ _ | refine blk_drew ?_ | refine blk_alloc ?_ _)); exact BK742.out) hb); have n5_ := Aside0.mk (blk_below (g := gb746) (o := .cells #[.slice Ao26 t758.length co26] 30 (0, 0)) (by (with_reducible repeat (first | refine blk_drewN ?_ _ | refine blk_drew ?_ | refine blk_alloc ?_ _)); exact BK746.out) hb); have n6_ := Aside0.mk (blk_below (g := gb751) (o := .cells #[.slice Ao32 t747.length co32] 30 (0, 0)) (by (with_reducible repeat (first | refine blk_drewN ?_ _ | refine blk_drew ?_ | refine blk_alloc ?_ _)); exact BK751.out) hb); have n7_ := Aside0.mk (below_step (by repeat (first | (with_reducible first | exact HB.out | apply below_alloc | apply pw_below_drewN | apply below_drew1 | refine below_set ?_ GE733.out | refine below_set ?_ GE742.out | refine below_set ?_ GE746.out | refine below_set ?_ GE751.out) | exact HB.out)) hb); clear HO_743000; clear HO_747000; clear HO_752000; clear BK733; clear BK742; clear BK746; clear BK751; clear HB; have HO_743000 := n0_; have HO_747000 := n1_; have HO_752000 := n2_; have BK733 := n3_; have BK742 := n4_; have BK746 := n5_; have BK751 := n6_; have HB := n7_; clear n0_ n1_ n2_ n3_ n4_ n5_ n6_ n7_; (try clear hb); (try clear hb2); (try clear hk); (try clear hi)))
                      go_ret
                      exact ⟨by first | rfl | (simp [errW_none, errW_some] <;> rfl) | (simp [*, errW_none, errW_some] <;> rfl), by repeat (first | (with_reducible first | exact HB.out | apply below_alloc | apply pw_below_drewN | apply below_drew1 | refine below_set ?_ GE733.out | refine below_set ?_ GE742.out | refine below_set ?_ GE746.out | refine below_set ?_ GE751.out) | exact HB.out)⟩
          · replace c58 := Bool.eq_false_iff.mpr c58
            subst c58
            have H1 : (some false) = some r := by rw [if_neg (show ¬ (false = true) by decide)] at H; exact H
            clear H
            have H := H1
            clear H1
            obtain rfl := Option.some.inj H
            try go_wp2
            have n0_ := Aside0.mk (Kd.R_drew HO_743000.out)
            have n1_ := Aside0.mk (Kd.R_drew HO_747000.out)
            have n2_ := Aside0.mk (Kd.R_drew HO_752000.out)
            have n3_ := Aside0.mk (blk_drew BK733.out)
            have n4_ := Aside0.mk (blk_drew BK742.out)
            have n5_ := Aside0.mk (blk_drew BK746.out)
            have n6_ := Aside0.mk (blk_drew BK751.out)
            have n7_ := Aside0.mk (below_drew1 HB.out)
            clear HO_743000
            clear HO_747000
            clear HO_752000
            clear BK733
            clear BK742
            clear BK746
            clear BK751
            clear HB
            have HO_743000 := n0_
            have HO_747000 := n1_
            have HO_752000 := n2_
            have BK733 := n3_
            have BK742 := n4_
            have BK746 := n5_
            have BK751 := n6_
            have HB := n7_
            clear n0_ n1_ n2_ n3_ n4_ n5_ n6_ n7_
            refine start_ (n := 5) (S := fun w' => w'.cell? ⟨gb746, 0, none⟩ = some (.slice Ao26 t743.length co26) ∧ w'.cell? ⟨gb733, 0, none⟩ = some (.slice A0_0 l0_0.length c0_0)) (ds := []) #[false, false, false, false, false] (by kernel_rfl) rfl rfl ⟨(blk_cell BK746.out 0).trans rfl, (blk_cell BK733.out 0).trans rfl⟩ (fun hHeld => ?_)
            generalize wc.drew = w175 at HO_743000 HO_747000 HO_752000 BK733 BK742 BK746 BK751 HB hHeld ⊢
            refine take_ (i := 0) (N := some 41) (v := ?_) (a' := ?_) #[true, false, false, false, false] rfl rfl (by kernel_rfl) (fun _ _ _ h => h) (Or.inl ⟨by rfl, ?_⟩) hHeld ?_ ?_
            rotate_left
            · rintro w' ⟨s0, s1⟩
              go_simp
              with_reducible rfl
            rotate_left
            · simp only [Act.put, List.setIfInBounds_toArray, List.set_cons_zero, List.set_cons_succ, i64_w, i32_w]
              rfl
            refine take_ (i := 1) (N := some 42) (v := ?_) (a' := ?_) #[true, true, false, false, false] rfl rfl (by kernel_rfl) (fun _ _ _ h => h) (Or.inl ⟨by rfl, ?_⟩) hHeld ?_ ?_
            rotate_left
            · rintro w' ⟨s0, s1⟩
              go_simp
              with_reducible rfl
            rotate_left
            · simp only [Act.put, List.setIfInBounds_toArray, List.set_cons_zero, List.set_cons_succ, i64_w, i32_w]
              rfl
            refine one_ (i := 2) (N := some 43) #[true, true, true, false, false] rfl rfl (by kernel_rfl) (by decide) (fun K hK => ?_)
            refine goes_ Try.func17 (by kernel_rfl) rfl #[.agg #[.slice A0_0 l0_0.length c0_0]] (by rfl) rfl rfl (by (try simp only [List.map_toArray, List.map_cons, List.map_nil]); first | done | rfl | (simp only [List.length_drop, List.length_take]; rfl)) ?_
            with_reducible refine (laws_toTrie.calls kj10 _ _ l0_0 t753 _ ?side1 ?side2 A56.out).mono ?_
            (case side1 => repeat (first | exact (Kd.C_below HR0_0.out HB.out) | (with_reducible refine Kd.C_alloc ?_ _) | (with_reducible refine Kd.C_drewN ?_ _) | (with_reducible refine Kd.C_drew ?_)))
            (case side2 => exact HC0_0.out)
            rintro e w176 ⟨v754, rfl, ho0, hb⟩
            refine ⟨_, rfl, ?_⟩
            have n0_ := Aside0.mk (Kd.R_elder' (by (with_reducible repeat (first | apply Kd.R_alloc | apply Kd.R_drewN | apply Kd.R_drew)); exact HO_743000.out) (Kd.R_base ho0) hb)
            have n1_ := Aside0.mk (Kd.R_elder' (by (with_reducible repeat (first | apply Kd.R_alloc | apply Kd.R_drewN | apply Kd.R_drew)); exact HO_747000.out) (Kd.R_base ho0) hb)
            have n2_ := Aside0.mk (Kd.R_elder' (by (with_reducible repeat (first | apply Kd.R_alloc | apply Kd.R_drewN | apply Kd.R_drew)); exact HO_752000.out) (Kd.R_base ho0) hb)
            have n3_ := Aside0.mk (Kd.R_lower (Kd.R_new' (Kd.R_new' (Kd.R_new' ho0 (Kd.R_lt (by (with_reducible repeat (first | apply Kd.R_alloc | apply Kd.R_drewN | apply Kd.R_drew)); exact HO_743000.out))) (Kd.R_lt (by (with_reducible repeat (first | apply Kd.R_alloc | apply Kd.R_drewN | apply Kd.R_drew)); exact HO_747000.out))) (Kd.R_lt (by (with_reducible repeat (first | apply Kd.R_alloc | apply Kd.R_drewN | apply Kd.R_drew)); exact HO_752000.out))) (below_size (by repeat (first | (with_reducible first | exact HB.out | apply below_alloc | apply pw_below_drewN | apply below_drew1 | refine below_set ?_ GE733.out | refine below_set ?_ GE742.out | refine below_set ?_ GE746.out | refine below_set ?_ GE751.out) | exact HB.out))))
            have n4_ := Aside0.mk (blk_below (g := gb733) (o := .cells #[.slice A0_0 l0_0.length c0_0] 24 (0, 0)) (by (with_reducible repeat (first | refine blk_drewN ?_ _ | refine blk_drew ?_ | refine blk_alloc ?_ _)); exact BK733.out) hb)
            have n5_ := Aside0.mk (blk_below (g := gb742) (o := .cells #[.slice Ao20 t738.length co20] 30 (0, 0)) (by (with_reducible repeat (first | refine blk_drewN ?_ _ | refine blk_drew ?_ | refine blk_alloc ?_ _)); exact BK742.out) hb)
            have n6_ := Aside0.mk (blk_below (g := gb746) (o := .cells #[.slice Ao26 t743.length co26] 30 (0, 0)) (by (with_reducible repeat (first | refine blk_drewN ?_ _ | refine blk_drew ?_ | refine blk_alloc ?_ _)); exact BK746.out) hb)
            have n7_ := Aside0.mk (blk_below (g := gb751) (o := .cells #[.slice Ao32 t747.length co32] 30 (0, 0)) (by (with_reducible repeat (first | refine blk_drewN ?_ _ | refine blk_drew ?_ | refine blk_alloc ?_ _)); exact BK751.out) hb)
            have n8_ := Aside0.mk (below_step (by repeat (first | (with_reducible first | exact HB.out | apply below_alloc | apply pw_below_drewN | apply below_drew1 | refine below_set ?_ GE733.out | refine below_set ?_ GE742.out | refine below_set ?_ GE746.out | refine below_set ?_ GE751.out) | exact HB.out)) hb)
            clear HO_743000
            clear HO_747000
            clear HO_752000
            clear BK733
            clear BK742
            clear BK746
            clear BK751
            clear HB
            have HO_743000 := n0_
            have HO_747000 := n1_
            have HO_752000 := n2_
            have HO755 := n3_
            have BK733 := n4_
            have BK742 := n5_
            have BK746 := n6_
            have BK751 := n7_
            have HB := n8_
            clear n0_ n1_ n2_ n3_ n4_ n5_ n6_ n7_ n8_
            (try clear hb)
            (try clear hb2)
            (try clear hk)
            (try clear hi)
            (try clear ho0)
            obtain ⟨Ao177, co177, eo177⟩ := Kd.R_slice HO755.out
            (first | subst eo177 | (injection eo177 with f1_ f2_ f3_; have f4_ := f1_.symm; have f5_ := f3_.symm; clear f1_ f2_ f3_; subst f4_; subst f5_))
            refine hK.out _ _ ⟨(blk_cell BK746.out 0).trans rfl, (blk_cell BK733.out 0).trans rfl⟩ (fun hHeld => ?_)
            clear hK K
            refine norm_ (a' := ?_) ?_ ?_
            rotate_left
            · show Act.put _ (some 43) _ = _
              simp only [Act.put, List.setIfInBounds_toArray, List.set_cons_zero, List.set_cons_succ, i64_w, i32_w]
              rfl
            refine one_ (i := 3) (N := some 44) #[true, true, true, true, false] rfl rfl (by kernel_rfl) (by decide) (fun K hK => ?_)
            refine goes_ Try.func19 (by kernel_rfl) rfl #[.agg #[.slice Ao26 t743.length co26], .agg #[.slice Ao177 t753.length co177]] (by rfl) rfl rfl (by (try simp only [List.map_toArray, List.map_cons, List.map_nil]); first | done | rfl | (simp only [List.length_drop, List.length_take]; rfl)) ?_
            with_reducible refine (laws_eqTrie.calls kj10 _ _ t743 _ _ t753 false _ ?side1 ?side2 ?side3 ?side4 A57.out).mono ?_
            (case side1 => repeat (first | exact (Kd.R_reads' HO_747000.out).2.2 | (with_reducible refine Kd.C_alloc ?_ _) | (with_reducible refine Kd.C_drewN ?_ _) | (with_reducible refine Kd.C_drew ?_)))
            (case side2 => exact (Kd.R_reads' HO_747000.out).2.1)
            (case side3 => repeat (first | exact (Kd.R_reads' HO755.out).2.2 | (with_reducible refine Kd.C_alloc ?_ _) | (with_reducible refine Kd.C_drewN ?_ _) | (with_reducible refine Kd.C_drew ?_)))
            (case side4 => exact (Kd.R_reads' HO755.out).2.1)
            rintro e w178 ⟨rfl, hb⟩
            refine ⟨_, rfl, ?_⟩
            have n0_ := Aside0.mk (Kd.R_below (by (with_reducible repeat (first | apply Kd.R_alloc | apply Kd.R_drewN | apply Kd.R_drew)); exact HO_743000.out) hb)
            have n1_ := Aside0.mk (Kd.R_below (by (with_reducible repeat (first | apply Kd.R_alloc | apply Kd.R_drewN | apply Kd.R_drew)); exact HO_747000.out) hb)
            have n2_ := Aside0.mk (Kd.R_below (by (with_reducible repeat (first | apply Kd.R_alloc | apply Kd.R_drewN | apply Kd.R_drew)); exact HO_752000.out) hb)
            have n3_ := Aside0.mk (Kd.R_below (by (with_reducible repeat (first | apply Kd.R_alloc | apply Kd.R_drewN | apply Kd.R_drew)); exact HO755.out) hb)
            have n4_ := Aside0.mk (blk_below (g := gb733) (o := .cells #[.slice A0_0 l0_0.length c0_0] 24 (0, 0)) (by (with_reducible repeat (first | refine blk_drewN ?_ _ | refine blk_drew ?_ | refine blk_alloc ?_ _)); exact BK733.out) hb)
            have n5_ := Aside0.mk (blk_below (g := gb742) (o := .cells #[.slice Ao20 t738.length co20] 30 (0, 0)) (by (with_reducible repeat (first | refine blk_drewN ?_ _ | refine blk_drew ?_ | refine blk_alloc ?_ _)); exact BK742.out) hb)
            have n6_ := Aside0.mk (blk_below (g := gb746) (o := .cells #[.slice Ao26 t743.length co26] 30 (0, 0)) (by (with_reducible repeat (first | refine blk_drewN ?_ _ | refine blk_drew ?_ | refine blk_alloc ?_ _)); exact BK746.out) hb)
            have n7_ := Aside0.mk (blk_below (g := gb751) (o := .cells #[.slice Ao32 t747.length co32] 30 (0, 0)) (by (with_reducible repeat (first | refine blk_drewN ?_ _ | refine blk_drew ?_ | refine blk_alloc ?_ _)); exact BK751.out) hb)
            have n8_ := Aside0.mk (below_step (by repeat (first | (with_reducible first | exact HB.out | apply below_alloc | apply pw_below_drewN | apply below_drew1 | refine below_set ?_ GE733.out | refine below_set ?_ GE742.out | refine below_set ?_ GE746.out | refine below_set ?_ GE751.out) | exact HB.out)) hb)
            clear HO_743000
            clear HO_747000
            clear HO_752000
            clear HO755
            clear BK733
            clear BK742
            clear BK746
            clear BK751
            clear HB
            have HO_743000 := n0_
            have HO_747000 := n1_
            have HO_752000 := n2_
            have HO755 := n3_
            have BK733 := n4_
            have BK742 := n5_
            have BK746 := n6_
            have BK751 := n7_
            have HB := n8_
            clear n0_ n1_ n2_ n3_ n4_ n5_ n6_ n7_ n8_
            (try clear hb)
            (try clear hb2)
            (try clear hk)
            (try clear hi)
            refine hK.out _ _ ⟨(blk_cell BK746.out 0).trans rfl, (blk_cell BK733.out 0).trans rfl⟩ (fun hHeld => ?_)
            clear hK K
            refine norm_ (a' := ?_) ?_ ?_
            rotate_left
            · show Act.put _ (some 44) _ = _
              simp only [Act.put, List.setIfInBounds_toArray, List.set_cons_zero, List.set_cons_succ, i64_w, i32_w]
              rfl
            refine pure_ (i := 4) (N := some 45) (v := ?_) (a' := ?_) #[true, true, true, true, true] rfl rfl (by kernel_rfl) (fun _ _ _ h => h) (Or.inl ⟨by rfl, ?_⟩) ?_ ?_
            rotate_left
            · intro w'
              go_simp
              with_reducible rfl
            rotate_left
            · simp only [Act.put, List.setIfInBounds_toArray, List.set_cons_zero, List.set_cons_succ, i64_w, i32_w]
              rfl
            refine done_ (by kernel_rfl) ?_
            try go_wp2
            go_ret
            exact ⟨by first | rfl | (simp [errW_none, errW_some] <;> rfl) | (simp [*, errW_none, errW_some] <;> rfl), by repeat (first | (with_reducible first | exact HB.out | apply below_alloc | apply pw_below_drewN | apply below_drew1 | refine below_set ?_ GE733.out | refine below_set ?_ GE742.out | refine below_set ?_ GE746.out | refine below_set ?_ GE751.out) | exact HB.out)⟩
end Go.Proofs.Ytbedgcngoddkdaa.Q
namespace Go.Proofs.Ytbedgcngoddkdaa.Q
open Go.RowKit Go.Proofs.YtbedgcngoddkdaaW.PrintWords Go.Proofs.YtbedgcngoddkdaaW.PrintLast
theorem both_FirstWords (l : List IN) : ∃ r, Ev (fun k => spec_FirstWords.f k l) r ∧ Ev (fun _ => impl_FirstWords.f l) r ∧ r.1.length ≤ 1048576 := by
  unfold spec_FirstWords.f impl_FirstWords.f
  rcases trie_cases l with hf | ⟨ws, hv, rfl, ht⟩
  · rw [hf]
    exact ⟨([], false), Ev.bind (specT l hf) (Ev.neg (by decide) (Ev.pure _)), Ev.pure _, by decide⟩
  · rw [ht, wordsV_trie hv]
    exact ⟨(trieW (ws.filter (firX ws)), true), Ev.bind (specT _ ht) (Ev.pos rfl (Ev.bind (specWords hv) (Ev.bind (first_ev hv true) (Ev.bind (made_sub hv _) (Ev.pure _))))), Ev.pure _, sub_le hv _⟩
theorem pure_FnExactFirstWords (l0 : List LN) (hl_l0 : l0.length ≤ maxLen) (hI_l0 : ∀ x ∈ l0, I64 x.f0 ∧ I64 x.f1) : ∃ k, laws_FnExactFirstWords.f k l0 = some true := by
  refine Ev.ex ?_
  unfold laws_FnExactFirstWords.f
  by_cases h_l0 : l0.length ≤ 1048576
  case neg => exact Ev.bindc (szTrie_eq l0 (by unfold maxLen at hl_l0; omega)) (by rw [if_neg h_l0]; exact Ev.pos (by decide) (Ev.pure _))
  refine Ev.bindc (szTrie_eq l0 (by unfold maxLen at hl_l0; omega)) ?_
  rw [if_pos h_l0]
  refine Ev.neg (by omega) ?_
  have ht_l0 := toTrie_ev l0 (by omega)
  have hc_l0 : (cv l0).length ≤ 1048576 := by rw [cv_length]; omega
  obtain ⟨r, e1, e2, hr⟩ := both_FirstWords (cv l0)
  have hq := eqTrie_ev r.1 r.1 hr
  refine (Ev.bind ht_l0 (Ev.bind e1 (Ev.bind ht_l0 (Ev.bind e2 (Ev.bind hq (Ev.pos (by simp) (Ev.succ ?_)))))))
  simp only [laws_FnExactFirstWords.j0]
  obtain ⟨m, hm⟩ := markTrie_ev (cv l0) hc_l0
  refine Ev.neg (by simp) (Ev.bind ht_l0 (Ev.bind (eqTrie_ev _ _ hc_l0) (Ev.pos (by simp) (Ev.bind hm (Ev.neg (by simp only; omega) (Ev.bind hq (Ev.pos (by simp) (Ev.succ ?_))))))))
  simp only [laws_FnExactFirstWords.j1]
  obtain ⟨ms, hs1, hs2⟩ := markH_ev r.1 hr
  refine Ev.neg (by simp) (Ev.bind hs1 (Ev.bind hs2 (Ev.neg (by omega) (Ev.pos rfl (Ev.bind ht_l0 (Ev.bind e2 (Ev.bind hq (Ev.pos (by simp) (Ev.succ ?_)))))))))
  simp only [laws_FnExactFirstWords.j2]
  exact Ev.neg (by simp) (Ev.bind hs2 (Ev.neg (by omega) (Ev.pos rfl (Ev.pure _))))
end Go.Proofs.Ytbedgcngoddkdaa.Q
namespace Go.Proofs.Ytbedgcngoddkdaa.Pure
theorem FnExactFirstWords (l0 : List Q.LN) (hl_l0 : l0.length ≤ maxLen) (hI_l0 : ∀ x ∈ l0, Q.I64 x.f0 ∧ Q.I64 x.f1) : ∃ k, Q.laws_FnExactFirstWords.f k l0 = some true := Q.pure_FnExactFirstWords l0 hl_l0 hI_l0
end Go.Proofs.Ytbedgcngoddkdaa.Pure
namespace Go.Proofs.Ytbedgcngoddkdaa.fnExactFirstWords
open Go.ChangeShapes Go.WideShapes Go.ChangeAt Go.RowKit
open Go.ChangeMaps (open_string shut_string)
set_option linter.unusedVariables false
theorem own : ownKnob Try.prog.godebug = none := by kernel_rfl
theorem laidOut : laidOutB Try.prog = true := by kernel_rfl
set_option maxRecDepth 100000 in
theorem lifted (os : Os) (started : os.Started) (H : Type) (enc : TypeId × Value → H) :
    ReturnsInHanded {} Try.checked os 12 .any (Rows.fnExactFirstWordsSpec.pre6 enc Try.prog Try.f12 Rows.fnExactFirstWordsRow.domain false) (Rows.fnExactFirstWordsSpec.post enc Try.prog Try.f12 false true false false) := by
  refine returnsInHanded_of_change_sized (C := Try.checked) own started (by kernel_rfl) Try.func12
    (ChangeSpec.witness6 (enc := enc) (C := Try.checked) false ⟨#[], #[.agg #[.slice none 0 0]], []⟩ 8 (by kernel_rfl) (by kernel_rfl) (by kernel_rfl) (by kernel_rfl)) ?_
  intro W base args ds gs before hval0 hW hcnd hsz0 _
  have hsz : (DataW.weightsEach Try.prog (Try.f12.params.toList ++ Rows.fnExactFirstWordsSpec.plain.varTypes Try.prog) (ds ++ gs)).all (· ≤ reachBytes) = true := hsz0
  have hval : ∀ (j : Nat) t v, Try.f12.params[j]? = some t → args[j]? = some v → Value.okWide Try.prog W .any base t v := hval0
  have hW' := hW
  obtain ⟨p, q, hA0, hV, rfl, hfz, hnd⟩ := hW
  have hA : DataW.TrodAll enc Try.prog W 0 (fun _ => true) true Try.f12.params.toList args.toList ds p := hA0
  rw [Try.params12] at hA hval hsz
  obtain ⟨v0, vs0, d0, ds0, p0, q0, hargs, rfl, rfl, h0, r0⟩ := trodAll_cons hA
  obtain ⟨rfl, rfl, rfl⟩ := trodAll_nil r0
  obtain rfl : args = #[v0] := by cases args; simp_all
  obtain ⟨rfl, rfl⟩ := trodVars_none hV
  have k0 := h0
  have lt0 : ∀ x ∈ p0, x.block < W.heap.size := by obtain ⟨m, hm⟩ := k0; exact DataW.trod_lt m _ _ _ hm
  obtain ⟨A0, c0, l0, rfl, hC0, hc0, hl0, hI0⟩ := Q.open_trie (hval 0 24 v0 rfl rfl) h0
  clear hA0 hval0 hsz0 hsz
  obtain ⟨k, hk⟩ := Pure.FnExactFirstWords l0 hl0 hI0
  refine (Q.laws_FnExactFirstWords.calls k A0 c0 l0 true W hC0 hc0 hk).mono fun e W' ⟨he, bel0⟩ => ?_
  have bel : Below W.heap.size W W' := bel0
  subst he
  exact ⟨_, rfl, _, _, _, [], _, [], hW', trodAll_mk1 (shut_bool Try.underlying4 _), (trodAll_cons_mk (Below.trod laidOut (by kernel_rfl) (of_decide_eq_true (by kernel_rfl)) k0 bel lt0) trodAll_mk0), rfl, bel.frame _, fun h => by cases h⟩
theorem over : Rows.fnExactFirstWordsRow.holds Try.pinned (OpenSpec.ofChange Rows.fnExactFirstWordsSpec) :=
  OpenClaim.holds_of_wide 12 Try.f12 rfl rfl rfl rfl rfl rfl rfl ⟨rfl, rfl, rfl, rfl, rfl⟩ rfl rfl rfl rfl rfl (by kernel_rfl) Try.func12 (by kernel_rfl)
    (of_decide_eq_true (by kernel_rfl)) (by unfold Func.isWrapper; first | (rw [if_pos (by decide +kernel)]; kernel_rfl) | (rw [if_neg (by decide +kernel)]; exact ⟨rfl, rfl⟩))
    (fun os started H enc _ => lifted os started H enc)
theorem proved : Rows.FnExactFirstWordsSaid := over
end Go.Proofs.Ytbedgcngoddkdaa.fnExactFirstWords
namespace Go.Proofs.Ytbedgcngoddkdaa
theorem fnExactFirstWords_holds : Rows.FnExactFirstWordsSaid := fnExactFirstWords.proved
end Go.Proofs.Ytbedgcngoddkdaa
