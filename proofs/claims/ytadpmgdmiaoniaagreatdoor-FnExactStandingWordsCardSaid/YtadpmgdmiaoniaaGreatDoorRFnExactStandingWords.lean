/- The law FnExactStandingWords: for every input the call answers true and leaves its arguments as they were. -/
import Derived.Test.YtadpmgdmiaoniaaGreatDoorE0
import Derived.Test.YtadpmgdmiaoniaaGreatDoorE1
import Derived.Test.YtadpmgdmiaoniaaGreatDoorE2
import Derived.Test.YtadpmgdmiaoniaaGreatDoorE3
import Derived.Test.YtadpmgdmiaoniaaGreatDoorEwWords
import Derived.Test.YtadpmgdmiaoniaaGreatDoorEwLast
import Derived.Test.YtadpmgdmiaoniaaGreatDoorEwTab
import Derived.Test.YtadpmgdmiaoniaaGreatDoorEwApart
import Derived.Test.YtadpmgdmiaoniaaGreatDoorEwFoot
import Derived.Test.YtadpmgdmiaoniaaGreatDoorEwKept
import Derived.Test.YtadpmgdmiaoniaaGreatDoorEwShare
import Derived.Test.YtadpmgdmiaoniaaGreatDoorEwN
import Derived.Test.YtadpmgdmiaoniaaGreatDoorEwEqStruct
import Derived.Test.YtadpmgdmiaoniaaGreatDoorEwRepsOne
import Derived.Test.YtadpmgdmiaoniaaGreatDoorEwGuard
import Derived.Test.YtadpmgdmiaoniaaGreatDoorEwMore
import Derived.Test.YtadpmgdmiaoniaaGreatDoorProg
import Derived.Below
import Derived.Deep.Draws
import Derived.Deep.AppendLies
import Derived.Maps.AppendAt
import Derived.OwnWalk
import Derived.Laws.BytesArg
import Derived.Laws.MakeOwn
import Derived.Laws.OwnMore
import Derived.Deep.OwnRows
import Derived.Tactics
import Derived.Lib.ConvBytes
import Derived.Laws.Slices
import Derived.WalkKit
import Derived.KernelRfl
import Derived.RowKit3
import Derived.Deep.LoopGhost
import Derived.Deep.QuietTactic
import Derived.BigQuiet
import Derived.WideLaws
import Derived.Deep.DeepCutAuto
import Derived.Deep.CutBlock
import Derived.Deep.RegionHeld3
import Derived.Laws.Rows
import Derived.Lib.AppendStr
import Derived.ArgAppend
import Derived.Laws.IdiomCopy
import Derived.OrdersHeld
import Derived.Laws.BitsLemmas
import Derived.RowKit
import Derived.Lib.SlicesCompact
import Derived.Shelf.Strings.SlTrimAscii
import Derived.Ground.NamesProg
import Derived.Ground.SlgfProg
import Derived.Maps.Own
import Derived.StringKeys
import Derived.Maps.OwnOps
import Derived.Maps.OwnSet
import Derived.Maps.Views
import Derived.Laws.AppendOwn
import Derived.Deep.DrawnRows
import Derived.Shelf.Sort.Plain
import Derived.Shelf.Slices.CompactS
import Derived.Shelf.Slices.In.SortNone
import Derived.RangeFuncBox
import Derived.RangeFuncLeaves
import Derived.Shelf.Abstract
import Derived.OwnWalkIn
import Derived.TacticsInMore
import Derived.LoopNIn
import Derived.LoopIn
import Derived.Lib.OwnBridge
import Derived.Sort.OwnSorted
import Derived.Sort.Grow
import Derived.Shelf.Strings.OnBuilder
import Derived.Sort.Walk0
import Derived.Lib.Strings
import Derived.Shelf.SlicesE.DeleteFunc
import Derived.Lib.SliceRun
import Derived.Sort.OwnSortedInts
import Derived.Deep.Slices
import Derived.Deep.Fields
import Derived.ChangeSame
import Derived.ChangeArms
import Derived.WideShapes
import Derived.Test.YtadpmgdmiaoniaaGreatDoorRows
import Derived.Test.YtadpmgdmiaoniaaGreatDoorTie
import Derived.Test.YtadpmgdmiaoniaaGreatDoorCards
import Derived.ProofKit
import Derived.OpenShut
import Derived.ShutString
import Derived.ChangeOld
import Derived.SizedLaws
import Derived.Carry
import Derived.LaidMore
import Derived.Lay
import Derived.SevenTiedAt
import Derived.Stop.Joined
set_option linter.unusedVariables false
set_option linter.unusedSimpArgs false
namespace Go.Proofs.YtadpmgdmiaoniaaGreatDoor.Q
open Go.RowKit Go.Proofs.YtadpmgdmiaoniaaGreatDoorW.PrintWords Go.Proofs.YtadpmgdmiaoniaaGreatDoorW.PrintLast Go.Proofs.YtadpmgdmiaoniaaGreatDoorW.PrintMore
attribute [local go_sem] run_field_23 run_field_24 run_field_30 run_field_31 isSome_setCell max2_int min2_int max_two min_two max_three min_three max_four min_four   -- for this text's walks alone
set_option linter.unusedVariables false
set_option linter.unusedSimpArgs false
mutual
def impl_StandingWords.l0 : Nat → List (S52) → List (List Int) → Int → Int → Option ((List (S52)) × Bool)
  | 0, _, _, _, _ => none
  | k + 1, x6, x18, x19, x20 => if x20 < x19 then (if 0 ≤ x20 then (if x20 < (x18.length : Int) then (impl_StandingWords.l1 k x6 x20 x18 x19 x20 (rd_L10 x18 x20) ((rd_L10 x18 x20).length : Int) 0) else (none)) else (none)) else (some (x6, true))
def impl_StandingWords.l1 : Nat → List (S52) → Int → List (List Int) → Int → Int → List Int → Int → Int → Option ((List (S52)) × Bool)
  | 0, _, _, _, _, _, _, _, _ => none
  | k + 1, x6, x7, x18, x19, x20, x25, x26, x27 => if x27 < x26 then (if 0 ≤ x27 then (if x27 < (x25.length : Int) then (if x6.length < 8796093022208 then (impl_StandingWords.l1 k (x6 ++ [(⟨x7, rd x25 x27⟩ : S52)]) x7 x18 x19 x20 x25 x26 (wrap64 (x27 + 1))) else (none)) else (none)) else (none)) else (impl_StandingWords.l0 k x6 x18 x19 (wrap64 (x20 + 1)))
end
def impl_StandingWords.f (k : Nat) (l0_0 : List (S70)) (a1 : ByteArray) : Option ((List (S52)) × Bool) := (impl_arePassage.f k l0_0 a1).bind fun t389 => (if t389 = true then ((impl_Trie_standing.f l0_0 a1).bind fun t393 => (impl_StandingWords.l0 k (([] : List (S52))) t393 (t393.length : Int) 0)) else (some (([] : List (S52)), false)))
set_option maxHeartbeats 8000000 in
set_option maxRecDepth 100000 in
theorem impl_StandingWords.calls (k : Nat) (A0_0 : Option Addr) (c0_0 : Nat) (l0_0 : List (S70)) (a1 : ByteArray) (r1 : List (S52)) (r2 : Bool) (w : World) (hr0_0 : Kd.C k70 w A0_0 l0_0.length l0_0) (hc0_0 : l0_0.length ≤ c0_0) (h : impl_StandingWords.f k l0_0 a1 = some (r1, r2)) :
    Calls Tryz.prog 9 #[.agg #[.slice A0_0 l0_0.length c0_0], .string a1] w fun e w' => ∃ v0_ : Value, e = .returned (.tuple #[v0_, .bool r2]) ∧ Kd.R k52 52 w' w.heap.size (fun _ => True) v0_ r1 ∧ Below w.heap.size w w' := by
  have hu31 := Tryz.underlying31
  have hu52 := Tryz.underlying52
  have HR0_0 := Aside0.mk hr0_0
  have HC0_0 := Aside0.mk hc0_0
  clear hr0_0 hc0_0
  have HB := Aside0.mk (Below.refl w.heap.size w)
  have H : ((impl_arePassage.f k l0_0 a1).bind fun t389 => (if t389 = true then ((impl_Trie_standing.f l0_0 a1).bind fun t393 => (impl_StandingWords.l0 k (([] : List (S52))) t393 (t393.length : Int) 0)) else (some (([] : List (S52)), false)))) = some (r1, r2) := h
  clear h
  replace H := Option.bind_eq_some_iff.mp H
  obtain ⟨t389, A30, H⟩ := H
  replace H : (if t389 = true then ((impl_Trie_standing.f l0_0 a1).bind fun t393 => (impl_StandingWords.l0 k (([] : List (S52))) t393 (t393.length : Int) 0)) else (some (([] : List (S52)), false))) = some (r1, r2) := H
  have A3 := Aside0.mk A30
  clear A30
  by_cases c4 : t389 = true
  · subst c4
    have H1 : ((impl_Trie_standing.f l0_0 a1).bind fun t393 => (impl_StandingWords.l0 k (([] : List (S52))) t393 (t393.length : Int) 0)) = some (r1, r2) := by rw [if_pos rfl] at H; exact H
    clear H
    have H := H1
    clear H1
    obtain ⟨y390, hy390⟩ : ∃ y_ : List (S52), y_ = (([] : List (S52))) := ⟨_, rfl⟩
    replace H : ((impl_Trie_standing.f l0_0 a1).bind fun t393 => (impl_StandingWords.l0 k y390 t393 (t393.length : Int) 0)) = some (r1, r2) := by first | (rw [hy390]; with_reducible exact H) | (have H2_ := (Option.bind_some _ _).symm.trans H; rw [hy390]; with_reducible exact H2_) | (have H2_ := (Option.bind_some _ _).symm.trans H; with_reducible exact H2_) | with_reducible exact H | (rw [hy390]; exact H) | exact H
    have Ny390 := Aside0.mk hy390
    clear hy390
    replace H := Option.bind_eq_some_iff.mp H
    obtain ⟨t393, A50, H⟩ := H
    replace H : (impl_StandingWords.l0 k y390 t393 (t393.length : Int) 0) = some (r1, r2) := H
    have A5 := Aside0.mk A50
    clear A50
    have H' := Aside0.mk H
    clear H
    go_enter Tryz.func9, Tryz.ntmps9
    go_wp2_with (first | ((with_reducible refine gate_dst (N := 2) rfl ?_); refine box_event ?hg (N := 2) ?hd (cs := #[.slice A0_0 l0_0.length c0_0]) (t := 31) ?hr ?_; (case hd => rfl); (case hg => rfl); (case hr => first | (go_simp; done) | (go_simp; rfl)); intro gb388 hg w6 hbox hb; have n0_ := Aside0.mk (below_step (by repeat (first | (with_reducible first | exact HB.out | apply below_alloc | apply pw_below_drewN | apply below_drew1) | exact HB.out)) hb); have n1_ := Aside0.mk (hbox); have n2_ := Aside0.mk ((by rw [hg]; exact (below_size (by repeat (first | (with_reducible first | exact HB.out | apply below_alloc | apply pw_below_drewN | apply below_drew1) | exact HB.out))) : w.heap.size ≤ gb388)); have n3_ := Aside0.mk ((by rw [hg]; exact (below_size (by repeat (first | (with_reducible first | exact HB.out | apply below_alloc | apply pw_below_drewN | apply below_drew1) | exact HB.out))) : w.heap.size ≤ gb388)); clear HB; have HB := n0_; have BK388 := n1_; have GW388 := n2_; have GE388 := n3_; clear n0_ n1_ n2_ n3_; clear hb hbox hg; have hcz7_0 : w6.cell? ⟨gb388, 0, none⟩ = some (.slice A0_0 l0_0.length c0_0) := (blk_cell BK388.out 0).trans rfl; have hfz7_0 := blk_frozen BK388.out 0) | ((with_reducible refine gate_callee (f := 30) rfl ?_); refine goesL_ (some 13) rfl rfl Tryz.func30 (by kernel_rfl) rfl #[.agg #[.slice A0_0 l0_0.length c0_0], .string a1] rfl (by (try simp only [List.map_toArray, List.map_cons, List.map_nil]); first | done | rfl | (simp only [List.length_drop, List.length_take]; rfl)) ?_; (with_reducible refine (impl_arePassage.calls k _ _ l0_0 a1 true _ ?side1 ?side2 A3.out).mono ?_); (case side1 => repeat (first | exact (Kd.C_below HR0_0.out HB.out) | (with_reducible refine Kd.C_alloc ?_ _) | (with_reducible refine Kd.C_drewN ?_ _) | (with_reducible refine Kd.C_drew ?_))); (case side2 => exact HC0_0.out); rintro e w8 ⟨rfl, hb⟩; refine ⟨_, rfl, ?_⟩; have n0_ := Aside0.mk (blk_below (g := gb388) (o := .cells #[.slice A0_0 l0_0.length c0_0] 31 (0, 0)) (by (with_reducible repeat (first | refine blk_drewN ?_ _ | refine blk_drew ?_ | refine blk_alloc ?_ _)); exact BK388.out) hb); have n1_ := Aside0.mk (below_step (by repeat (first | (with_reducible first | exact HB.out | apply below_alloc | apply pw_below_drewN | apply below_drew1 | refine below_set ?_ GE388.out) | exact HB.out)) hb); clear BK388; clear HB; have BK388 := n0_; have HB := n1_; clear n0_ n1_; (try clear hb); (try clear hb2); (try clear hk); (try clear hi)) | ((with_reducible refine gate_dst (N := 15) rfl ?_); refine Kd.R_lit k52 _ 52 ?hg (N := 15) ?hd (xs := ([] : List (S52))) (inner := []) (ok := fun _ => True) (okp := fun _ => True) ?hr ?hp (fun _ hk => hk) trivial (Below.refl _ _) (Nat.le_refl _) (by simp) ?_; (case hd => rfl); (case hg => rfl); (case hr => first | (go_simp; done) | (go_simp; rfl)); (case hp => exact (Reps.none _ _)); intro v391 w9 ho10 hb hg_ hnew_; clear hg_ hnew_; (first | rw [← Ny390.out] at ho10 | (simp only [Int.reduceToNat] at ho10; rw [← Ny390.out] at ho10)); have n0_ := Aside0.mk (Kd.R_lower ho10 (below_size (by repeat (first | (with_reducible first | exact HB.out | apply below_alloc | apply pw_below_drewN | apply below_drew1 | refine below_set ?_ GE388.out) | exact HB.out)))); have n1_ := Aside0.mk (blk_below (g := gb388) (o := .cells #[.slice A0_0 l0_0.length c0_0] 31 (0, 0)) (by (with_reducible repeat (first | refine blk_drewN ?_ _ | refine blk_drew ?_ | refine blk_alloc ?_ _)); exact BK388.out) hb); have n2_ := Aside0.mk (below_step (by repeat (first | (with_reducible first | exact HB.out | apply below_alloc | apply pw_below_drewN | apply below_drew1 | refine below_set ?_ GE388.out) | exact HB.out)) hb); clear BK388; clear HB; have HO392 := n0_; have BK388 := n1_; have HB := n2_; clear n0_ n1_ n2_; clear hb ho10; have hcz11_0 : w9.cell? ⟨gb388, 0, none⟩ = some (.slice A0_0 l0_0.length c0_0) := (blk_cell BK388.out 0).trans rfl; have hfz11_0 := blk_frozen BK388.out 0) | ((with_reducible refine gate_callee (f := 31) rfl ?_); refine goesL_ (some 18) rfl rfl Tryz.func31 (by kernel_rfl) rfl #[.agg #[.slice A0_0 l0_0.length c0_0], .string a1] rfl (by (try simp only [List.map_toArray, List.map_cons, List.map_nil]); first | done | rfl | (simp only [List.length_drop, List.length_take]; rfl)) ?_; (with_reducible refine (impl_Trie_standing.calls _ _ l0_0 a1 t393 _ ?side1 ?side2 A5.out).mono ?_); (case side1 => repeat (first | exact (Kd.C_below HR0_0.out HB.out) | (with_reducible refine Kd.C_alloc ?_ _) | (with_reducible refine Kd.C_drewN ?_ _) | (with_reducible refine Kd.C_drew ?_))); (case side2 => exact HC0_0.out); rintro e w12 ⟨v394, rfl, ho0, hb⟩; refine ⟨_, rfl, ?_⟩; have n0_ := Aside0.mk (Kd.R_below (by (with_reducible repeat (first | apply Kd.R_alloc | apply Kd.R_drewN | apply Kd.R_drew)); exact HO392.out) hb); have n1_ := Aside0.mk (Kd.S_lower ho0 (below_size (by repeat (first | (with_reducible first | exact HB.out | apply below_alloc | apply pw_below_drewN | apply below_drew1 | refine below_set ?_ GE388.out) | exact HB.out)))); have n2_ := Aside0.mk (blk_below (g := gb388) (o := .cells #[.slice A0_0 l0_0.length c0_0] 31 (0, 0)) (by (with_reducible repeat (first | refine blk_drewN ?_ _ | refine blk_drew ?_ | refine blk_alloc ?_ _)); exact BK388.out) hb); have n3_ := Aside0.mk (below_step (by repeat (first | (with_reducible first | exact HB.out | apply below_alloc | apply pw_below_drewN | apply below_drew1 | refine below_set ?_ GE388.out) | exact HB.out)) hb); clear HO392; clear BK388; clear HB; have HO392 := n0_; have HO395 := n1_; have BK388 := n2_; have HB := n3_; clear n0_ n1_ n2_ n3_; (try clear hb); (try clear hb2); (try clear hk); (try clear hi); (try clear ho0); obtain ⟨Ao13, co13, eo13⟩ := Kd.S_slice HO395.out; subst eo13))
    go_loopg [6, 20] k (fun kq v6 v20 w' => ∃ (x6_1 : List (S52)) (x20_1 : Int), v20 = .int .i64 x20_1 ∧ Aside0 (impl_StandingWords.l0 kq x6_1 t393 (t393.length : Int) x20_1 = some (r1, r2)) ∧ Aside0 (kq ≤ k) ∧ Aside0 (Kd.R k52 52 w' w.heap.size (fun _ => True) v6 x6_1) ∧ Aside0 (Kd.S (Kd.slice 3 (Kd.int .i64)) 38 w' w.heap.size (fun _ => True) (.slice Ao13 t393.length co13) t393) ∧ Aside0 (w'.heap[gb388]? = some (.cells #[(.slice A0_0 l0_0.length c0_0)] 31 (0, 0))) ∧ Aside0 (Below w.heap.size w w'))
    case atStart => exact ⟨(y390), (0), (by first | rfl | (simp; done) | (simp [*]; done)), H', ⟨Nat.le_refl _⟩, ⟨by (with_reducible repeat (first | apply Kd.R_alloc | apply Kd.R_drewN | apply Kd.R_drew)); exact HO392.out⟩, ⟨by (with_reducible repeat (first | apply Kd.S_alloc | apply Kd.S_drewN | apply Kd.S_drew)); exact HO395.out⟩, ⟨by (with_reducible repeat (first | refine blk_drewN ?_ _ | refine blk_drew ?_ | refine blk_alloc ?_ _)); exact BK388.out⟩, ⟨by repeat (first | (with_reducible first | exact HB.out | apply below_alloc | apply pw_below_drewN | apply below_drew1 | refine below_set ?_ GE388.out) | exact HB.out)⟩⟩
    case round =>
      clear H'
      try clear p2
      try clear c3
      try clear c4
      try clear c9
      try clear hcz11_0
      try clear hcz7_0
      try clear hfz11_0
      try clear hfz7_0
      obtain ⟨x6_1, x20_1, rfl, HA, HK1, HO_6, HO_18, BK388, HB⟩ := hrel
      cases gk with
      | zero => exact absurd HA.out (by simp [impl_StandingWords.l0])
      | succ k1 =>
        have H := HA.out
        clear HA
        simp only [impl_StandingWords.l0] at H
        by_cases c14 : x20_1 < (t393.length : Int)
        · rw [if_pos c14] at H
          have c14b0 : decide (x20_1 < (t393.length : Int)) = true := decide_eq_true c14
          clear c14
          by_cases c15 : 0 ≤ x20_1
          · rw [if_pos c15] at H
            have c15b0 : decide (0 ≤ x20_1) = true := decide_eq_true c15
            clear c15
            by_cases c16 : x20_1 < (t393.length : Int)
            · rw [if_pos c16] at H
              have c16b0 : decide (x20_1 < (t393.length : Int)) = true := decide_eq_true c16
              clear c16
              have H' := Aside0.mk H
              clear H
              have p396 : 0 ≤ (x20_1 : Int) := of_decide_eq_true (by first | (with_reducible assumption) | assumption)
              have q396 : x20_1 < (t393.length : Int) := of_decide_eq_true (by first | (with_reducible assumption) | assumption)
              obtain ⟨ad396, A396_0, c396_0, e396, hx396_0, hl396_0, hi396_0⟩ := at_L10 (Kd.S_reads' HO_18.out).2.2 x20_1 p396 q396
              cases e396
              obtain ⟨ce396, hce396, hMe396, hcc396⟩ := Kd.S_get HO_18.out [] x20_1 p396 (by first | exact q396 | exact of_decide_eq_true (by first | (with_reducible assumption) | assumption) | (have e_ := (Kd.S_reads' HO_18.out).1; omega))
              obtain ⟨ve396_0, rfl, ge396_0⟩ := hMe396
              have hv396_0 := hcc396 0 _ rfl
              rw [Nat.add_zero, show ((Kd.slice 3 (Kd.int .i64))).sz = 1 from rfl, Nat.mul_one] at hv396_0
              replace hv396_0 := Option.some.inj (hv396_0.symm.trans hx396_0)
              rw [hv396_0] at ge396_0
              have HL396_0 := Aside0.mk (show Kd.R (Kd.int .i64) 3 _ _ _ _ (rd_L10 t393 x20_1) from ge396_0)
              clear hv396_0 ge396_0
              clear hcc396 hce396
              have HR396_0 := Aside0.mk hi396_0
              have HC396_0 := Aside0.mk hl396_0
              clear hi396_0 hl396_0
              replace p396 := eq_true p396
              replace q396 := eq_true q396
              go_wp2
              go_loopg [6, 27] k1 (fun kq v6 v27 w' => ∃ (x6_2 : List (S52)) (x27_2 : Int), v27 = .int .i64 x27_2 ∧ Aside0 (impl_StandingWords.l1 kq x6_2 x20_1 t393 (t393.length : Int) x20_1 (rd_L10 t393 x20_1) ((rd_L10 t393 x20_1).length : Int) x27_2 = some (r1, r2)) ∧ Aside0 (kq ≤ k1) ∧ Aside0 (Kd.R k52 52 w' w.heap.size (fun _ => True) v6 x6_2) ∧ Aside0 (Kd.S (Kd.slice 3 (Kd.int .i64)) 38 w' w.heap.size (fun _ => True) (.slice (some ad396) t393.length co13) t393) ∧ Aside0 (w'.heap[gb388]? = some (.cells #[(.slice A0_0 l0_0.length c0_0)] 31 (0, 0))) ∧ Aside0 (Below w.heap.size w w') ∧ Aside0 (Kd.R (Kd.int .i64) 3 w' w.heap.size (fun _ => True) (.slice A396_0 (rd_L10 t393 x20_1).length c396_0) (rd_L10 t393 x20_1)))
              case atStart => exact ⟨(x6_1), (0), (by first | rfl | (simp; done) | (simp [*]; done)), H', ⟨Nat.le_refl _⟩, ⟨by (with_reducible repeat (first | apply Kd.R_alloc | apply Kd.R_drewN | apply Kd.R_drew)); exact HO_6.out⟩, ⟨by (with_reducible repeat (first | apply Kd.S_alloc | apply Kd.S_drewN | apply Kd.S_drew)); exact HO_18.out⟩, ⟨by (with_reducible repeat (first | refine blk_drewN ?_ _ | refine blk_drew ?_ | refine blk_alloc ?_ _)); exact BK388.out⟩, ⟨by repeat (first | (with_reducible first | exact HB.out | apply below_alloc | apply pw_below_drewN | apply below_drew1 | refine below_set ?_ GE388.out) | exact HB.out)⟩, ⟨Kd.R_mono HL396_0.out (fun _ _ => trivial)⟩⟩
              case round =>
                clear H'
                try clear c1
                try clear p2
                try clear c3
                try clear p3
                try clear q3
                try clear hx3
                try clear c4
                try clear c9
                try clear c14
                try clear c14b0
                try clear c15
                try clear c15b0
                try clear c16
                try clear c16b0
                try clear hcz11_0
                try clear hcz7_0
                try clear hfz11_0
                try clear hfz7_0
                try clear hx396_0
                try clear p2
                try clear p396
                try clear q396
                obtain ⟨x6_2, x27_2, rfl, HA, HK2, HO_6, HO_18, BK388, HB, HL396_0⟩ := hrel
                cases gk with
                | zero => exact absurd HA.out (by simp [impl_StandingWords.l1])
                | succ k2 =>
                  have H := HA.out
                  clear HA
                  simp only [impl_StandingWords.l1] at H
                  by_cases c17 : x27_2 < ((rd_L10 t393 x20_1).length : Int)
                  · rw [if_pos c17] at H
                    have c17b0 : decide (x27_2 < ((rd_L10 t393 x20_1).length : Int)) = true := decide_eq_true c17
                    clear c17
                    by_cases c18 : 0 ≤ x27_2
                    · rw [if_pos c18] at H
                      have c18b0 : decide (0 ≤ x27_2) = true := decide_eq_true c18
                      clear c18
                      by_cases c19 : x27_2 < ((rd_L10 t393 x20_1).length : Int)
                      · rw [if_pos c19] at H
                        have c19b0 : decide (x27_2 < ((rd_L10 t393 x20_1).length : Int)) = true := decide_eq_true c19
                        clear c19
                        by_cases c20 : x6_2.length < 8796093022208
                        · rw [if_pos c20] at H
                          have LMc20 := Aside0.mk c20
                          clear c20
                          obtain ⟨y398, hy398⟩ : ∃ y_ : List (S52), y_ = (x6_2 ++ [(⟨x20_1, rd (rd_L10 t393 x20_1) x27_2⟩ : S52)]) := ⟨_, rfl⟩
                          replace H : (impl_StandingWords.l1 k2 y398 x20_1 t393 (t393.length : Int) x20_1 (rd_L10 t393 x20_1) ((rd_L10 t393 x20_1).length : Int) (wrap64 (x27_2 + 1))) = some (r1, r2) := by first | (rw [hy398]; with_reducible exact H) | (have H2_ := (Option.bind_some _ _).symm.trans H; rw [hy398]; with_reducible exact H2_) | (have H2_ := (Option.bind_some _ _).symm.trans H; with_reducible exact H2_) | with_reducible exact H | (rw [hy398]; exact H) | exact H
                          have Ny398 := Aside0.mk hy398
                          clear hy398
                          have H' := Aside0.mk H
                          clear H
                          have p397 : 0 ≤ (x27_2 : Int) := of_decide_eq_true (by first | (with_reducible assumption) | assumption)
                          have q397 : x27_2 < ((rd_L10 t393 x20_1).length : Int) := of_decide_eq_true (by first | (with_reducible assumption) | assumption)
                          obtain ⟨ad397, e397, hx397_0⟩ := Kd.at_int (Kd.R_reads' HL396_0.out).2.2 x27_2 p397 q397
                          cases e397
                          skip
                          replace p397 := eq_true p397
                          replace q397 := eq_true q397
                          go_wp2_with (first | ((with_reducible refine gate_builtin (b := .append) (xs := #[.tmp 31, .tmp 35]) rfl ?_); at_builtin; refine Kd.R_append k52 (w0 := w) w.heap.size rfl (.tmp 31) (.tmp 35) 26 52 (.agg #[(.int .i64 0), (.int .i64 0)]) 16 rfl Tryz.underlying26 info52 rfl (by decide) (by omega) u6 x6_2 (⟨x20_1, rd (rd_L10 t393 x20_1) x27_2⟩ : S52) [.int .i64 x20_1, .int .i64 (rd (rd_L10 t393 x20_1) x27_2)] (fun _ => True) (fun _ => False) rfl rfl ?aP (fun _ hk => hk.elim) ?aF ?aO ?aB ?aS ?aL ?_; (case aP => exact k52_mkM _ _ _ (⟨x20_1, rd (rd_L10 t393 x20_1) x27_2⟩ : S52)); (case aB => exact (by repeat (first | (with_reducible first | exact HB.out | apply below_alloc | apply pw_below_drewN | apply below_drew1 | refine below_set ?_ GE388.out) | exact HB.out))); (case aF => exact (fun _ _ => trivial)); (case aO => exact (by (with_reducible repeat (first | apply Kd.R_alloc | apply Kd.R_drewN | apply Kd.R_drew)); exact HO_6.out)); (case aS => exact (below_size (by repeat (first | (with_reducible first | exact HB.out | apply below_alloc | apply pw_below_drewN | apply below_drew1 | refine below_set ?_ GE388.out) | exact HB.out)))); (case aL => have := LMc20.out; omega); intro v399 w21 ho hb hg hat; rw [← Ny398.out] at ho; have n0_ := Aside0.mk (Kd.S_over' (by (with_reducible repeat (first | apply Kd.S_alloc | apply Kd.S_drewN | apply Kd.S_drew)); exact HO_18.out) (Kd.R_typed (by (with_reducible repeat (first | apply Kd.R_alloc | apply Kd.R_drewN | apply Kd.R_drew)); exact HO_6.out)) (by decide) hg); have n1_ := Aside0.mk (blk_grown (g := gb388) (o := .cells #[.slice A0_0 l0_0.length c0_0] 31 (0, 0)) (by (with_reducible repeat (first | refine blk_drewN ?_ _ | refine blk_drew ?_ | refine blk_alloc ?_ _)); exact BK388.out) hg (Kd.R_ne HO_6.out BK388.out (by decide))); have n2_ := Aside0.mk (hb); have n3_ := Aside0.mk (ho); have nL_ := Aside0.mk (Kd.R_over' (by (with_reducible repeat (first | apply Kd.R_alloc | apply Kd.R_drewN | apply Kd.R_drew)); exact HL396_0.out) (Kd.R_typed (by (with_reducible repeat (first | apply Kd.R_alloc | apply Kd.R_drewN | apply Kd.R_drew)); exact HO_6.out)) (by decide) hg); clear HL396_0; have HL396_0 := nL_; clear nL_; clear HO_18; clear BK388; clear HB; clear HO_6; have HO_18 := n0_; have BK388 := n1_; have HB := n2_; have HO400 := n3_; clear n0_ n1_ n2_ n3_; clear ho hb hg hat))
                          go_roundg k2
                          case measure => have := HK1.out; have := HK2.out; omega
                          case rel => exact ⟨(y398), (wrap64 (x27_2 + 1)), (by first | rfl | (simp; done) | (simp [*]; done)), H', ⟨by have := HK1.out; have := HK2.out; omega⟩, ⟨by (with_reducible repeat (first | apply Kd.R_alloc | apply Kd.R_drewN | apply Kd.R_drew)); exact HO400.out⟩, ⟨by (with_reducible repeat (first | apply Kd.S_alloc | apply Kd.S_drewN | apply Kd.S_drew)); exact HO_18.out⟩, ⟨by (with_reducible repeat (first | refine blk_drewN ?_ _ | refine blk_drew ?_ | refine blk_alloc ?_ _)); exact BK388.out⟩, ⟨by repeat (first | (with_reducible first | exact HB.out | apply below_alloc | apply pw_below_drewN | apply below_drew1 | refine below_set ?_ GE388.out) | exact HB.out)⟩, ⟨by (with_reducible repeat (first | apply Kd.R_alloc | apply Kd.R_drewN | apply Kd.R_drew)); exact HL396_0.out⟩⟩
                        · rw [if_neg c20] at H
                          exact absurd H (by simp)
                      · rw [if_neg c19] at H
                        exact absurd H (by simp)
                    · rw [if_neg c18] at H
                      exact absurd H (by simp)
                  · rw [if_neg c17] at H
                    have c17b0 : decide (x27_2 < ((rd_L10 t393 x20_1).length : Int)) = false := decide_eq_false c17
                    clear c17
                    have H' := Aside0.mk H
                    clear H
                    go_wp2
                    go_roundg k2
                    case measure => have := HK1.out; have := HK2.out; omega
                    case rel => exact ⟨(x6_2), (wrap64 (x20_1 + 1)), (by first | rfl | (simp; done) | (simp [*]; done)), H', ⟨by have := HK1.out; have := HK2.out; omega⟩, ⟨by (with_reducible repeat (first | apply Kd.R_alloc | apply Kd.R_drewN | apply Kd.R_drew)); exact HO_6.out⟩, ⟨by (with_reducible repeat (first | apply Kd.S_alloc | apply Kd.S_drewN | apply Kd.S_drew)); exact HO_18.out⟩, ⟨by (with_reducible repeat (first | refine blk_drewN ?_ _ | refine blk_drew ?_ | refine blk_alloc ?_ _)); exact BK388.out⟩, ⟨by repeat (first | (with_reducible first | exact HB.out | apply below_alloc | apply pw_below_drewN | apply below_drew1 | refine below_set ?_ GE388.out) | exact HB.out)⟩⟩
            · rw [if_neg c16] at H
              exact absurd H (by simp)
          · rw [if_neg c15] at H
            exact absurd H (by simp)
        · rw [if_neg c14] at H
          have c14b0 : decide (x20_1 < (t393.length : Int)) = false := decide_eq_false c14
          clear c14
          simp only [Option.some.injEq, Prod.mk.injEq] at H
          obtain ⟨rfl, rfl⟩ := H
          go_wp2
          go_ret2
          exact ⟨_, by first | rfl | (simp [errW_none, errW_some] <;> rfl) | (simp [*, errW_none, errW_some] <;> rfl), by (with_reducible repeat (first | apply Kd.R_alloc | apply Kd.R_drewN | apply Kd.R_drew)); exact HO_6.out, by repeat (first | (with_reducible first | exact HB.out | apply below_alloc | apply pw_below_drewN | apply below_drew1 | refine below_set ?_ GE388.out) | exact HB.out)⟩
  · replace c4 := Bool.eq_false_iff.mpr c4
    subst c4
    have H1 : (some (([] : List (S52)), false)) = some (r1, r2) := by rw [if_neg (show ¬ (false = true) by decide)] at H; exact H
    clear H
    have H := H1
    clear H1
    simp only [Option.some.injEq, Prod.mk.injEq] at H
    obtain ⟨rfl, rfl⟩ := H
    go_enter Tryz.func9, Tryz.ntmps9
    go_wp2_with (first | ((with_reducible refine gate_dst (N := 2) rfl ?_); refine box_event ?hg (N := 2) ?hd (cs := #[.slice A0_0 l0_0.length c0_0]) (t := 31) ?hr ?_; (case hd => rfl); (case hg => rfl); (case hr => first | (go_simp; done) | (go_simp; rfl)); intro gb388 hg w22 hbox hb; have n0_ := Aside0.mk (below_step (by repeat (first | (with_reducible first | exact HB.out | apply below_alloc | apply pw_below_drewN | apply below_drew1) | exact HB.out)) hb); have n1_ := Aside0.mk (hbox); have n2_ := Aside0.mk ((by rw [hg]; exact (below_size (by repeat (first | (with_reducible first | exact HB.out | apply below_alloc | apply pw_below_drewN | apply below_drew1) | exact HB.out))) : w.heap.size ≤ gb388)); have n3_ := Aside0.mk ((by rw [hg]; exact (below_size (by repeat (first | (with_reducible first | exact HB.out | apply below_alloc | apply pw_below_drewN | apply below_drew1) | exact HB.out))) : w.heap.size ≤ gb388)); clear HB; have HB := n0_; have BK388 := n1_; have GW388 := n2_; have GE388 := n3_; clear n0_ n1_ n2_ n3_; clear hb hbox hg; have hcz23_0 : w22.cell? ⟨gb388, 0, none⟩ = some (.slice A0_0 l0_0.length c0_0) := (blk_cell BK388.out 0).trans rfl; have hfz23_0 := blk_frozen BK388.out 0) | ((with_reducible refine gate_callee (f := 30) rfl ?_); refine goesL_ (some 13) rfl rfl Tryz.func30 (by kernel_rfl) rfl #[.agg #[.slice A0_0 l0_0.length c0_0], .string a1] rfl (by (try simp only [List.map_toArray, List.map_cons, List.map_nil]); first | done | rfl | (simp only [List.length_drop, List.length_take]; rfl)) ?_; (with_reducible refine (impl_arePassage.calls k _ _ l0_0 a1 false _ ?side1 ?side2 A3.out).mono ?_); (case side1 => repeat (first | exact (Kd.C_below HR0_0.out HB.out) | (with_reducible refine Kd.C_alloc ?_ _) | (with_reducible refine Kd.C_drewN ?_ _) | (with_reducible refine Kd.C_drew ?_))); (case side2 => exact HC0_0.out); rintro e w24 ⟨rfl, hb⟩; refine ⟨_, rfl, ?_⟩; have n0_ := Aside0.mk (blk_below (g := gb388) (o := .cells #[.slice A0_0 l0_0.length c0_0] 31 (0, 0)) (by (with_reducible repeat (first | refine blk_drewN ?_ _ | refine blk_drew ?_ | refine blk_alloc ?_ _)); exact BK388.out) hb); have n1_ := Aside0.mk (below_step (by repeat (first | (with_reducible first | exact HB.out | apply below_alloc | apply pw_below_drewN | apply below_drew1 | refine below_set ?_ GE388.out) | exact HB.out)) hb); clear BK388; clear HB; have BK388 := n0_; have HB := n1_; clear n0_ n1_; (try clear hb); (try clear hb2); (try clear hk); (try clear hi)))
    go_ret2
    exact ⟨_, by first | rfl | (simp [errW_none, errW_some] <;> rfl) | (simp [*, errW_none, errW_some] <;> rfl), by first | exact Kd.R_nil _ _ _ _ _ | exact Kd.N_nil _ _ _ _ _ | exact Kd.V_nil _ _ _ _ _ | exact Kd.Q_nil _ _ _ _ _ | exact Kd.S_nil _ _ _ _ _, by repeat (first | (with_reducible first | exact HB.out | apply below_alloc | apply pw_below_drewN | apply below_drew1 | refine below_set ?_ GE388.out) | exact HB.out)⟩
end Go.Proofs.YtadpmgdmiaoniaaGreatDoor.Q
namespace Go.Proofs.YtadpmgdmiaoniaaGreatDoor.Q
open Go.RowKit Go.Proofs.YtadpmgdmiaoniaaGreatDoorW.PrintWords Go.Proofs.YtadpmgdmiaoniaaGreatDoorW.PrintLast Go.Proofs.YtadpmgdmiaoniaaGreatDoorW.PrintMore
set_option linter.unusedVariables false
abbrev IP := S52
instance : DecidableEq IP := fun a b => decidable_of_iff (a.f0 = b.f0 ∧ a.f1 = b.f1) ⟨fun h => by cases a; cases b; simp only at h; rw [h.1, h.2], fun h => by rw [h]; exact ⟨rfl, rfl⟩⟩
def eqP (x y : IP) : Bool := decide (x.f0 = y.f0) && decide (x.f1 = y.f1)
theorem eqP_iff (x y : IP) : eqP x y = decide (x = y) := by
  unfold eqP
  rw [← Bool.decide_and]
  exact decide_eq_decide.2 ⟨fun h => by cases x; cases y; simp only at h; rw [h.1, h.2], fun h => by rw [h]; exact ⟨rfl, rfl⟩⟩
theorem pair_boxes (w : World) (x y : IP) : ∀ W, Below (w.heap.size + 1 + 1) ((w.alloc (.cells #[.int .i64 x.f0, .int .i64 x.f1] 52)).alloc (.cells #[.int .i64 y.f0, .int .i64 y.f1] 52)) W →
    (W.cell? ⟨w.heap.size, 0, none⟩ = some (.int .i64 x.f0) ∧ W.cell? ⟨w.heap.size, 1, none⟩ = some (.int .i64 x.f1)) ∧ W.cell? ⟨w.heap.size + 1, 0, none⟩ = some (.int .i64 y.f0) ∧ W.cell? ⟨w.heap.size + 1, 1, none⟩ = some (.int .i64 y.f1) := fun W h => by
  have h1 : W.heap[w.heap.size]? = some (.cells #[.int .i64 x.f0, .int .i64 x.f1] 52 (0, 0)) := by
    rw [h.block _ (by omega), ((Below.refl (w.heap.size + 1) (w.alloc (.cells #[.int .i64 x.f0, .int .i64 x.f1] 52))).alloc (by simp) _).block _ (by omega)]
    exact Go.heap_alloc_new w _
  have h2 : W.heap[w.heap.size + 1]? = some (.cells #[.int .i64 y.f0, .int .i64 y.f1] 52 (0, 0)) := by
    rw [h.block _ (by omega)]
    have := Go.heap_alloc_new (w.alloc (.cells #[.int .i64 x.f0, .int .i64 x.f1] 52)) (.cells #[.int .i64 y.f0, .int .i64 y.f1] 52)
    rwa [World.size_alloc] at this
  exact ⟨⟨by simp [World.cell?, h1], by simp [World.cell?, h1]⟩, by simp [World.cell?, h2], by simp [World.cell?, h2]⟩
set_option maxHeartbeats 1000000 in
theorem eqA2_calls (x y : IP) (w : World) : Calls Tryz.prog 32 #[.agg #[.int .i64 x.f0, .int .i64 x.f1], .agg #[.int .i64 y.f0, .int .i64 y.f1]] w fun e w' => e = .returned (.bool (eqP x y)) ∧ Below w.heap.size w w' := by
  have HX := Aside0.mk (pair_boxes w x y)
  have HB0 := Aside0.mk (((Below.refl w.heap.size w).alloc (Nat.le_refl _) (.cells #[.int .i64 x.f0, .int .i64 x.f1] 52)).alloc (by simp) (.cells #[.int .i64 y.f0, .int .i64 y.f1] 52))
  go_enter Tryz.func32, Tryz.ntmps32
  go_wp2
  go_loopw [5] (fun v wr => Aside0 (Below (w.heap.size + 1 + 1) ((w.alloc (.cells #[.int .i64 x.f0, .int .i64 x.f1] 52)).alloc (.cells #[.int .i64 y.f0, .int .i64 y.f1] 52)) wr) ∧ (v = .int .i64 0 ∨ (v = .int .i64 1 ∧ Aside0 (x.f0 = y.f0)) ∨ (v = .int .i64 2 ∧ Aside0 (x.f0 = y.f0 ∧ x.f1 = y.f1)))) (fun v _ => 2 - (intOf v).toNat)
  case atStart => exact ⟨⟨Below.refl _ _⟩, .inl rfl⟩
  case round =>
    obtain ⟨HB, hv⟩ := hrel
    obtain ⟨⟨hx0, hx1⟩, hy0, hy1⟩ := HX.out wr HB.out
    have hfin : Below w.heap.size w wr := HB0.out.trans (HB.out.mono (by omega))
    have HF := Aside0.mk hfin
    clear hfin
    rcases hv with rfl | ⟨rfl, HE⟩ | ⟨rfl, HE⟩
    · by_cases hq : x.f0 = y.f0
      · have hqb := beq_iff_eq.2 hq
        have hqn := bne_eq_false_iff_eq.2 hq
        have HQ := Aside0.mk hq
        clear hq
        go_wp2
        go_region
        go_wp2
        exact ⟨⟨⟨HB.out.drew⟩, .inr (.inl ⟨by go_num, HQ⟩)⟩, by simp [intOf]⟩
      · have hqb := beq_eq_false_iff_ne.2 hq
        have hqn := bne_iff_ne.2 hq
        have he : eqP x y = false := by unfold eqP; rw [decide_eq_false hq]; rfl
        have HQ := Aside0.mk he
        clear hq he
        go_wp2
        go_region
        go_wp2
        go_ret
        exact ⟨by rw [HQ.out]; rfl, HF.out.drew⟩
    · by_cases hq : x.f1 = y.f1
      · have hqb := beq_iff_eq.2 hq
        have hqn := bne_eq_false_iff_eq.2 hq
        have HQ := Aside0.mk hq
        clear hq
        go_wp2
        go_region
        go_wp2
        exact ⟨⟨⟨HB.out.drew⟩, .inr (.inr ⟨by go_num, ⟨HE.out, HQ.out⟩⟩)⟩, by simp [intOf]⟩
      · have hqb := beq_eq_false_iff_ne.2 hq
        have hqn := bne_iff_ne.2 hq
        have he : eqP x y = false := by unfold eqP; rw [decide_eq_false hq, Bool.and_false]
        have HQ := Aside0.mk he
        clear hq he
        go_wp2
        go_region
        go_wp2
        go_ret
        exact ⟨by rw [HQ.out]; rfl, HF.out.drew⟩
    · have he : eqP x y = true := by unfold eqP; rw [decide_eq_true HE.out.1, decide_eq_true HE.out.2]; rfl
      have HQ := Aside0.mk he
      clear he
      go_wp2
      go_ret
      exact ⟨by rw [HQ.out]; rfl, HF.out⟩
def laws_eqIntA2S.f (l0 l1 : List IP) : Option Bool := if l0.length ≤ 1099511627776 then some (decide (l0 = l1)) else none
theorem pairs_at {w : World} {A : Option Addr} {n : Nat} {xs : List IP} (h : Kd.C k52 w A n xs) (i : Nat) (hn : n = xs.length) (hi : i < xs.length) : ∃ ad, A = some ad ∧ w.cell? (ad.add (i * 2)) = some (.int .i64 xs[i].f0) ∧ w.cell? ⟨(ad.add (i * 2)).block, (ad.add (i * 2)).off + 1, none⟩ = some (.int .i64 xs[i].f1) := by
  obtain ⟨ad, e, h0, h1⟩ := at_T52 h (i : Int) (by omega) (by omega)
  rw [Int.toNat_natCast] at h0 h1
  have er : rd_T52 xs (i : Int) = xs[i] := by simp [rd_T52, hi]
  rw [er] at h0 h1
  exact ⟨ad, e, h0, h1⟩
theorem take_eq_next {a b : List IP} {n : Nat} (ha : n < a.length) (hb : n < b.length) (h : a.take n = b.take n) (e : a[n] = b[n]) : a.take (n + 1) = b.take (n + 1) := by
  rw [List.take_succ_eq_append_getElem ha, List.take_succ_eq_append_getElem hb, h, e]
set_option maxHeartbeats 1000000 in
theorem laws_eqIntA2S.calls (A0 : Option Addr) (c0 : Nat) (l0 : List IP) (A1 : Option Addr) (c1 : Nat) (l1 : List IP) (r : Bool) (w : World) (hr0 : Kd.C k52 w A0 l0.length l0) (hc0 : l0.length ≤ c0) (hr1 : Kd.C k52 w A1 l1.length l1) (hc1 : l1.length ≤ c1) (h : laws_eqIntA2S.f l0 l1 = some r) :
    Calls Tryz.prog 10 #[.slice A0 l0.length c0, .slice A1 l1.length c1] w fun e w' => e = .returned (.bool r) ∧ Below w.heap.size w w' := by
  unfold laws_eqIntA2S.f at h
  split at h
  case isFalse => cases h
  rename_i hs
  obtain rfl := Option.some.inj h
  clear h
  have HR0 := Aside0.mk hr0
  have HR1 := Aside0.mk hr1
  clear hr0 hr1 hc0 hc1
  by_cases hab : l0.length = l1.length
  · have hb1 : ((l0.length : Int) != (l1.length : Int)) = false := by rw [bne_eq_false_iff_eq]; omega
    have hb2 := beq_iff_eq.2 hab
    go_enter Tryz.func10, Tryz.ntmps10
    go_wp2
    clear hb1 hb2
    have HAB := Aside0.mk hab
    clear hab
    go_loopw [5] (fun v wr => ∃ n : Nat, n ≤ l0.length ∧ v = .int .i64 n ∧ Aside0 (Below w.heap.size w wr) ∧ Aside0 (l0.take n = l1.take n)) (fun v _ => l0.length - (intOf v).toNat)
    case atStart => exact ⟨0, Nat.zero_le _, rfl, ⟨Below.refl _ _⟩, ⟨rfl⟩⟩
    case round =>
      obtain ⟨n, hn, rfl, HB, HE⟩ := hrel
      by_cases hlt : n < l0.length
      · have hlt1 : n < l1.length := by have := HAB.out; omega
        obtain ⟨ad0, rfl, hx0, hx1⟩ := pairs_at (Kd.C_below HR0.out HB.out) n rfl hlt
        obtain ⟨ad1, rfl, hy0, hy1⟩ := pairs_at (Kd.C_below HR1.out HB.out) n rfl hlt1
        have HN : Aside0 (l0[n] = l1[n] → l0.take (n + 1) = l1.take (n + 1)) := ⟨take_eq_next hlt hlt1 HE.out⟩
        have HF : Aside0 (l0[n] ≠ l1[n] → l0 ≠ l1) := ⟨fun h e => h (by subst e; rfl)⟩
        have HX0 : Aside0 (∀ W, Below w.heap.size w W → W.cell? (ad0.add (n * 2)) = some (.int .i64 l0[n].f0) ∧ W.cell? ⟨(ad0.add (n * 2)).block, (ad0.add (n * 2)).off + 1, none⟩ = some (.int .i64 l0[n].f1)) := ⟨fun W hW => by obtain ⟨_, e, h⟩ := pairs_at (Kd.C_below HR0.out hW) n rfl hlt; cases e; exact h⟩
        have HX1 : Aside0 (∀ W, Below w.heap.size w W → W.cell? (ad1.add (n * 2)) = some (.int .i64 l1[n].f0) ∧ W.cell? ⟨(ad1.add (n * 2)).block, (ad1.add (n * 2)).off + 1, none⟩ = some (.int .i64 l1[n].f1)) := ⟨fun W hW => by obtain ⟨_, e, h⟩ := pairs_at (Kd.C_below HR1.out hW) n rfl hlt1; cases e; exact h⟩
        generalize l0[n] = x at hx0 hx1 HX0 HN HF
        generalize l1[n] = y at hy0 hy1 HX1 HN HF
        have hq := HB.out
        by_cases hxy : x = y
        · have hr : eqP x y = true := by rw [eqP_iff]; exact decide_eq_true hxy
          have HXY := Aside0.mk hxy
          clear hxy
          go_wp2
          go_region_held3 (fun w' => ((w'.cell? (ad0.add (n * 2)) = some (.int .i64 x.f0) ∧ w'.cell? ⟨(ad0.add (n * 2)).block, (ad0.add (n * 2)).off + 1, none⟩ = some (.int .i64 x.f1)) ∧ w'.cell? (ad1.add (n * 2)) = some (.int .i64 y.f0) ∧ w'.cell? ⟨(ad1.add (n * 2)).block, (ad1.add (n * 2)).off + 1, none⟩ = some (.int .i64 y.f1)) ∧ Below w.heap.size w w') ((first | exact ⟨by assumption, by assumption⟩ | exact ⟨⟨hc0, hc1⟩, hq2⟩ | exact ⟨⟨⟨by assumption, by assumption⟩, by assumption, by assumption⟩, by assumption⟩ | exact ⟨⟨HX0.out _ hq.drew, HX1.out _ hq.drew⟩, hq.drew⟩))
            ((go_at_call 32; (try go_split_ands); refine (eqA2_calls x y _).mono ?_; rintro e w2 ⟨rfl, hb⟩; have hq2 := Below.trans (a := w) (by assumption) (hb.mono (Below.size (w := w) (by assumption))); have hc0 := HX0.out w2 hq2; have hc1 := HX1.out w2 hq2; clear hb))
          all_goals go_wp2
          all_goals exact ⟨⟨n + 1, by omega, by go_num, ⟨hq2⟩, ⟨HN.out HXY.out⟩⟩, by simp [intOf]; omega⟩
        · have hr : eqP x y = false := by rw [eqP_iff]; exact decide_eq_false hxy
          have he : decide (l0 = l1) = false := decide_eq_false (HF.out hxy)
          have HD := Aside0.mk he
          clear hxy he
          go_wp2
          go_region_held3 (fun w' => ((w'.cell? (ad0.add (n * 2)) = some (.int .i64 x.f0) ∧ w'.cell? ⟨(ad0.add (n * 2)).block, (ad0.add (n * 2)).off + 1, none⟩ = some (.int .i64 x.f1)) ∧ w'.cell? (ad1.add (n * 2)) = some (.int .i64 y.f0) ∧ w'.cell? ⟨(ad1.add (n * 2)).block, (ad1.add (n * 2)).off + 1, none⟩ = some (.int .i64 y.f1)) ∧ Below w.heap.size w w') ((first | exact ⟨by assumption, by assumption⟩ | exact ⟨⟨hc0, hc1⟩, hq2⟩ | exact ⟨⟨⟨by assumption, by assumption⟩, by assumption, by assumption⟩, by assumption⟩ | exact ⟨⟨HX0.out _ hq.drew, HX1.out _ hq.drew⟩, hq.drew⟩))
            ((go_at_call 32; (try go_split_ands); refine (eqA2_calls x y _).mono ?_; rintro e w2 ⟨rfl, hb⟩; have hq2 := Below.trans (a := w) (by assumption) (hb.mono (Below.size (w := w) (by assumption))); have hc0 := HX0.out w2 hq2; have hc1 := HX1.out w2 hq2; clear hb))
          all_goals go_wp2
          all_goals go_ret
          all_goals exact ⟨by rw [HD.out]; rfl, hq2⟩
      · obtain rfl : n = l0.length := by omega
        have he : decide (l0 = l1) = true := by
          have h := HE.out
          rw [List.take_length, List.take_of_length_le (by rw [HAB.out]; exact Nat.le_refl _)] at h
          exact decide_eq_true h
        have HD := Aside0.mk he
        clear he
        go_wp2
        go_ret
        exact ⟨by rw [HD.out]; rfl, HB.out⟩
  · have hb1 : ((l0.length : Int) != (l1.length : Int)) = true := by rw [bne_iff_ne]; omega
    have hb2 := beq_eq_false_iff_ne.2 hab
    have he : decide (l0 = l1) = false := decide_eq_false (fun e => hab (by rw [e]))
    have HD := Aside0.mk he
    clear he hab
    go_enter Tryz.func10, Tryz.ntmps10
    go_wp2
    go_ret
    exact ⟨by rw [HD.out]; rfl, Below.refl _ _⟩
def markP (i : Nat) : IP := ⟨2 * (i : Int) + 1, 2 * (i : Int) + 2⟩
def markedP (n : Nat) : List IP := (List.range n).map markP
theorem markedP_len (n : Nat) : (markedP n).length = n := by simp [markedP]
theorem markedP_at (n i : Nat) (h : i < (markedP n).length) : (markedP n)[i] = markP i := by simp [markedP]
def laws_heldIntA2S.f (l0 : List IP) (a1 : Int) : Option Int := if l0.length ≤ 1099511627776 ∧ a1 = 1 ∧ l0 = markedP l0.length then some (2 * (l0.length : Int) + 1) else none
set_option maxHeartbeats 1000000 in
theorem laws_heldIntA2S.calls (A0 : Option Addr) (c0 : Nat) (l0 : List IP) (a1 : Int) (r : Int) (w : World) (hr0 : Kd.C k52 w A0 l0.length l0) (hc0 : l0.length ≤ c0) (h : laws_heldIntA2S.f l0 a1 = some r) :
    Calls Tryz.prog 14 #[.slice A0 l0.length c0, .int .i64 a1] w fun e w' => e = .returned (.int .i64 r) ∧ Drawn0 w w' := by
  unfold laws_heldIntA2S.f at h
  split at h
  case isFalse => cases h
  rename_i hs
  obtain ⟨hs, rfl, hm⟩ := hs
  obtain rfl := Option.some.inj h
  have HR0 := Aside0.mk hr0
  have HM := Aside0.mk hm
  clear h hr0 hc0 hm
  go_enter Tryz.func14, Tryz.ntmps14
  go_wp2
  go_loopw [1, 5] (fun k v wr => ∃ n : Nat, n ≤ l0.length ∧ k = .int .i64 (2 * (n : Int) + 1) ∧ v = .int .i64 n ∧ wr = w) (fun _ v _ => l0.length - (intOf v).toNat)
  case atStart => exact ⟨0, Nat.zero_le _, rfl, rfl, rfl⟩
  case round =>
    obtain ⟨n, hn, rfl, rfl, rfl⟩ := hrel
    by_cases hlt : n < l0.length
    · obtain ⟨ad, rfl, hx0, hx1⟩ := pairs_at HR0.out n rfl hlt
      have hel : l0[n] = markP n := by
        have e : l0[n]? = some (markP n) := by rw [HM.out, List.getElem?_eq_getElem (by rw [markedP_len]; exact hlt), markedP_at]
        rw [List.getElem?_eq_getElem hlt] at e
        exact Option.some.inj e
      rw [hel] at hx0 hx1
      simp only [markP] at hx0 hx1
      clear hel
      go_wp2
      go_loopw [1, 6] (fun k j wr2 => wr2 = wr ∧ ((k = .int .i64 (2 * (n : Int) + 1) ∧ j = .int .i64 0) ∨ (k = .int .i64 (2 * (n : Int) + 2) ∧ j = .int .i64 1) ∨ (k = .int .i64 (2 * (n : Int) + 3) ∧ j = .int .i64 2))) (fun _ j _ => 2 - (intOf j).toNat)
      case atStart => exact ⟨rfl, .inl ⟨rfl, rfl⟩⟩
      case round =>
        obtain ⟨rfl, hv⟩ := hrel
        have e1 : IntKind.i64.wrap (2 * (n : Int) + 1 + 1) = 2 * (n : Int) + 2 := by rw [i64_w]; unfold wrap64; omega
        have e2 : IntKind.i64.wrap (2 * (n : Int) + 2 + 1) = 2 * (n : Int) + 3 := by rw [i64_w]; unfold wrap64; omega
        rcases hv with ⟨rfl, rfl⟩ | ⟨rfl, rfl⟩ | ⟨rfl, rfl⟩
        · go_wp2
          exact ⟨⟨trivial, .inr (.inl ⟨rfl, rfl⟩)⟩, by simp [intOf]⟩
        · go_wp2
          exact ⟨⟨trivial, .inr (.inr ⟨rfl, rfl⟩)⟩, by simp [intOf]⟩
        · go_wp2
          exact ⟨⟨n + 1, by omega, by congr 1, by go_num, trivial⟩, by simp [intOf]; omega⟩
    · obtain rfl : n = l0.length := by omega
      go_wp2
      go_ret
      exact ⟨rfl, Drawn0.refl _⟩
def midP (l : List IP) (n : Nat) : List IP := markedP n ++ l.drop n
theorem midP_len (l : List IP) (n : Nat) (h : n ≤ l.length) : (midP l n).length = l.length := by
  unfold midP
  rw [List.length_append, markedP_len, List.length_drop]
  omega
theorem midP_at (l : List IP) (n : Nat) (h : n < l.length) : (midP l n).getD n z52 = l[n] := by
  unfold midP
  rw [List.getD_eq_getElem?_getD, List.getElem?_append_right (by rw [markedP_len]; exact Nat.le_refl _), markedP_len, Nat.sub_self, List.getElem?_drop, Nat.add_zero, List.getElem?_eq_getElem h]
  rfl
theorem midP_set (l : List IP) (n : Nat) (h : n < l.length) (x : IP) : ((midP l n).set n x).set n (markP n) = midP l (n + 1) := by
  rw [List.set_set]
  unfold midP
  rw [List.set_append_right _ _ (by rw [markedP_len]; exact Nat.le_refl _), markedP_len, Nat.sub_self, List.drop_eq_getElem_cons h, List.set_cons_zero]
  have e : markedP (n + 1) = markedP n ++ [markP n] := by unfold markedP; rw [List.range_succ, List.map_append]; rfl
  rw [e, List.append_assoc]
  rfl
structure PairPut (W : World) (base : Nat) (ok : Nat → Prop) (v : Value) (g n : Nat) (x : IP) (xs : List IP) : Prop where
  c0 : W.cell? ⟨g, n * 2, none⟩ = some (.int .i64 x.f0)
  c1 : W.cell? ⟨g, n * 2 + 1, none⟩ = some (.int .i64 x.f1)
  f0 : W.frozen? ⟨g, n * 2, none⟩ = false
  f1 : W.frozen? ⟨g, n * 2 + 1, none⟩ = false
  p0 : ∀ y, Kd.R k52 52 (W.setCell ⟨g, n * 2, none⟩ (.int .i64 y)) base ok v (xs.set n ⟨y, x.f1⟩) ∧ W.grownBy (W.setCell ⟨g, n * 2, none⟩ (.int .i64 y)) (some g)
  p1 : ∀ y, Kd.R k52 52 (W.setCell ⟨g, n * 2 + 1, none⟩ (.int .i64 y)) base ok v (xs.set n ⟨x.f0, y⟩) ∧ W.grownBy (W.setCell ⟨g, n * 2 + 1, none⟩ (.int .i64 y)) (some g)
theorem pair_put {W : World} {base g m cap n : Nat} {ok : Nat → Prop} {xs : List IP} (h : Kd.R k52 52 W base ok (.slice (some ⟨g, 0, none⟩) m cap) xs) (hn : n < m) (x : IP) (hx : xs.getD n z52 = x) : PairPut W base ok (.slice (some ⟨g, 0, none⟩) m cap) g n x xs := by
  obtain ⟨ce, hcl, hM, hcc, hfr⟩ := Kd.R_elem h z52 (n : Int) (by omega) (by omega)
  rw [Int.toNat_natCast, hx] at hM
  obtain rfl := k52_openM hM
  have q0 := hcc 0 _ rfl
  have q1 := hcc 1 _ rfl
  have g0 := hfr 0
  have g1 := hfr 1
  rw [Int.toNat_natCast] at q0 q1 g0 g1
  refine ⟨q0, q1, g0, g1, fun y => ?_, fun y => ?_⟩
  · have := Kd.R_seg h (n : Int) (by omega) (by omega) (seg := [.int .i64 y]) (j := 0) hcl hcc (show 1 ≤ 2 by decide) (x' := (⟨y, x.f1⟩ : IP)) (k52_mkM _ _ _ (⟨y, x.f1⟩ : IP)) (fun _ hk => hk)
    rw [Int.toNat_natCast] at this
    exact this
  · have := Kd.R_seg h (n : Int) (by omega) (by omega) (seg := [.int .i64 y]) (j := 1) hcl hcc (show 2 ≤ 2 by decide) (x' := (⟨x.f0, y⟩ : IP)) (k52_mkM _ _ _ (⟨x.f0, y⟩ : IP)) (fun _ hk => hk)
    rw [Int.toNat_natCast] at this
    exact this
def laws_markIntA2S.f (l0 : List IP) (a1 : Int) : Option (Int × List IP) := if l0.length ≤ 1099511627776 ∧ a1 = 1 then some (2 * (l0.length : Int) + 1, markedP l0.length) else none
set_option maxHeartbeats 1000000 in
theorem laws_markIntA2S.calls (P0_ : Nat → Prop) (u9000_ : Value) (l0 : List IP) (a1 : Int) (r1 : Int) (r2 : List IP) (w0 w : World) (hB : Below w0.heap.size w0 w) (ho0 : Kd.R k52 52 w w0.heap.size P0_ u9000_ l0) (h : laws_markIntA2S.f l0 a1 = some (r1, r2)) :
    Calls Tryz.prog 13 #[u9000_, .int .i64 a1] w fun e w' => e = .returned (.int .i64 r1) ∧ Kd.R k52 52 w' w0.heap.size (fun k_ => (P0_ k_ ∨ w.heap.size ≤ k_)) u9000_ r2 ∧ Below w0.heap.size w0 w' ∧ Kept w w' (fun k_ => P0_ k_) := by
  unfold laws_markIntA2S.f at h
  split at h
  case isFalse => cases h
  rename_i hs
  obtain ⟨hs, rfl⟩ := hs
  obtain ⟨A, c, rfl⟩ := Kd.R_slice ho0
  injection h with h
  injection h with h1 h2
  subst h1; subst h2
  have HO := Aside0.mk ho0
  have HB := Aside0.mk hB
  clear ho0 hB
  go_enter Tryz.func13, Tryz.ntmps13
  go_wp2
  go_loopw [1, 5] (fun k v wr => ∃ n : Nat, n ≤ l0.length ∧ k = .int .i64 (2 * (n : Int) + 1) ∧ v = .int .i64 n ∧ Aside0 (Kd.R k52 52 wr w0.heap.size P0_ (.slice A l0.length c) (midP l0 n)) ∧ Aside0 (Below w0.heap.size w0 wr) ∧ Aside0 (Kept w wr P0_)) (fun _ v _ => l0.length - (intOf v).toNat)
  case atStart => exact ⟨0, Nat.zero_le _, rfl, rfl, HO, HB, ⟨Kept.refl _ _⟩⟩
  case round =>
    clear HO HB
    obtain ⟨n, hn, rfl, rfl, HO, HB, HK⟩ := hrel
    by_cases hlt : n < l0.length
    · obtain ⟨g, cap, eg, hg, hgl, cells, hgc⟩ := Kd.R_form HO.out (by rw [midP_len l0 n hn]; omega)
      injection eg with eg e2 e3
      subst eg
      have HG := Aside0.mk hg
      clear hgc hgl hg e2 e3
      have HX0 := Aside0.mk (midP_at l0 n hlt)
      have HS0 := Aside0.mk (midP_set l0 n hlt ⟨2 * (n : Int) + 1, l0[n].f1⟩)
      have HL0 : Aside0 (((midP l0 n).set n ⟨2 * (n : Int) + 1, l0[n].f1⟩).getD n z52 = ⟨2 * (n : Int) + 1, l0[n].f1⟩) := ⟨by rw [List.getD_eq_getElem?_getD, List.getElem?_set_self (by rw [midP_len l0 n hn]; exact hlt)]; rfl⟩
      have hml := midP_len l0 n hn
      generalize l0[n] = x at HX0 HS0 HL0
      go_wp2
      clear hml
      go_loopw [1, 6] (fun k j wr2 => Aside0 (Below w0.heap.size w0 wr2) ∧ Aside0 (Kept w wr2 P0_) ∧ ((k = .int .i64 (2 * (n : Int) + 1) ∧ j = .int .i64 0 ∧ Aside0 (Kd.R k52 52 wr2 w0.heap.size P0_ (.slice (some ⟨g, 0, none⟩) l0.length c) (midP l0 n))) ∨ (k = .int .i64 (2 * (n : Int) + 2) ∧ j = .int .i64 1 ∧ Aside0 (Kd.R k52 52 wr2 w0.heap.size P0_ (.slice (some ⟨g, 0, none⟩) l0.length c) ((midP l0 n).set n ⟨2 * (n : Int) + 1, x.f1⟩))) ∨ (k = .int .i64 (2 * (n : Int) + 3) ∧ j = .int .i64 2 ∧ Aside0 (Kd.R k52 52 wr2 w0.heap.size P0_ (.slice (some ⟨g, 0, none⟩) l0.length c) (midP l0 (n + 1)))))) (fun _ j _ => 2 - (intOf j).toNat)
      case atStart => exact ⟨HB, HK, .inl ⟨rfl, rfl, HO⟩⟩
      case round =>
        clear HB HK HO
        obtain ⟨HB, HK, hv⟩ := hrel
        have e1 : IntKind.i64.wrap (2 * (n : Int) + 1 + 1) = 2 * (n : Int) + 2 := by rw [i64_w]; unfold wrap64; omega
        have e2 : IntKind.i64.wrap (2 * (n : Int) + 2 + 1) = 2 * (n : Int) + 3 := by rw [i64_w]; unfold wrap64; omega
        rcases hv with ⟨rfl, rfl, HO⟩ | ⟨rfl, rfl, HO⟩ | ⟨rfl, rfl, HO⟩
        · have hp := pair_put HO.out hlt x HX0.out
          have hc := hp.c0
          have hf := hp.f0
          obtain ⟨hR, hG⟩ := hp.p0 (2 * (n : Int) + 1)
          have HR := Aside0.mk hR
          have HB2 := Aside0.mk (below_set HB.out HG.out (j := n * 2) (v := .int .i64 (2 * (n : Int) + 1)))
          have HK2 := Aside0.mk (Kept.of_grown hG HK.out (fun k_ e_ => .inl (HO.out.1 k_ e_)))
          clear hp hR hG
          go_wp2
          exact ⟨⟨HB2, HK2, .inr (.inl ⟨rfl, rfl, HR⟩)⟩, by simp [intOf]⟩
        · have hp := pair_put HO.out hlt _ HL0.out
          have hc := hp.c1
          have hf := hp.f1
          obtain ⟨hR, hG⟩ := hp.p1 (2 * (n : Int) + 2)
          have hR2 : Kd.R k52 52 (wr.setCell ⟨g, n * 2 + 1, none⟩ (.int .i64 (2 * (n : Int) + 2))) w0.heap.size P0_ (.slice (some ⟨g, 0, none⟩) l0.length c) (midP l0 (n + 1)) := by rw [← HS0.out]; exact hR
          have HR := Aside0.mk hR2
          have HB2 := Aside0.mk (below_set HB.out HG.out (j := n * 2 + 1) (v := .int .i64 (2 * (n : Int) + 2)))
          have HK2 := Aside0.mk (Kept.of_grown hG HK.out (fun k_ e_ => .inl (HO.out.1 k_ e_)))
          clear hp hR hG hR2
          go_wp2
          exact ⟨⟨HB2, HK2, .inr (.inr ⟨rfl, rfl, HR⟩)⟩, by simp [intOf]⟩
        · go_wp2
          exact ⟨⟨n + 1, by omega, by congr 1, by go_num, HO, HB, HK⟩, by simp [intOf]; omega⟩
    · obtain rfl : n = l0.length := by omega
      go_wp2
      go_ret
      have e : midP l0 l0.length = markedP l0.length := by unfold midP; rw [List.drop_length, List.append_nil]
      exact ⟨rfl, Kd.R_mono (e ▸ HO.out) (fun _ h => .inl h), HB.out, HK.out⟩
end Go.Proofs.YtadpmgdmiaoniaaGreatDoor.Q
namespace Go.Proofs.YtadpmgdmiaoniaaGreatDoor.Q
open Go.RowKit Go.Proofs.YtadpmgdmiaoniaaGreatDoorW.PrintWords Go.Proofs.YtadpmgdmiaoniaaGreatDoorW.PrintLast Go.Proofs.YtadpmgdmiaoniaaGreatDoorW.PrintMore
attribute [local go_sem] run_field_23 run_field_24 run_field_30 run_field_31 isSome_setCell max2_int min2_int max_two min_two max_three min_three max_four min_four   -- for this text's walks alone
set_option linter.unusedVariables false
set_option linter.unusedSimpArgs false
mutual
def laws_FnExactStandingWords.j0 : Nat → ByteArray → List (S52) → Bool → List (S52) → Bool → Bool → List (S75) → List (S70) → Option (Bool)
  | 0, _, _, _, _, _, _, _, _ => none
  | k + 1, x1, x6, x7, x9, x10, x47, x416000, x428000 => if x47 = true then (some false) else ((laws_toTrie.f k x416000).bind fun t433 => ((laws_eqTrie.f k x428000 t433).bind fun t436 => (if t436 = true then ((laws_markTrie.f k x428000 1).bind fun bt437 => (if bt437.1 < 0 then (laws_FnExactStandingWords.j1 k x1 x6 x7 x9 true x416000) else ((laws_eqIntA2S.f x9 x6).bind fun t439 => (if t439 = true then (laws_FnExactStandingWords.j1 k x1 x6 x7 x9 (x10 != x7) x416000) else (laws_FnExactStandingWords.j1 k x1 x6 x7 x9 true x416000))))) else (some false))))
def laws_FnExactStandingWords.j1 : Nat → ByteArray → List (S52) → Bool → List (S52) → Bool → List (S75) → Option (Bool)
  | 0, _, _, _, _, _, _ => none
  | k + 1, x1, x6, x7, x9, x68, x416000 => if x68 = true then (some false) else ((laws_markIntA2S.f x9 1).bind fun bt440 => ((laws_heldIntA2S.f bt440.2 1).bind fun t442 => (if t442 < 0 then (some false) else (if t442 = bt440.1 then ((laws_toTrie.f k x416000).bind fun t443 => ((impl_StandingWords.f k t443 x1).bind fun bt446 => ((laws_eqIntA2S.f bt446.1 x6).bind fun t450 => (if t450 = true then (laws_FnExactStandingWords.j2 k bt440.2 bt440.1 (bt446.2 != x7)) else (laws_FnExactStandingWords.j2 k bt440.2 bt440.1 true))))) else (some false)))))
def laws_FnExactStandingWords.j2 : Nat → List (S52) → Int → Bool → Option (Bool)
  | 0, _, _, _ => none
  | k + 1, x9, x12, x95 => if x95 = true then (some false) else ((laws_heldIntA2S.f x9 1).bind fun t451 => (if t451 < 0 then (some false) else (if t451 = x12 then (some true) else (some false))))
end
def laws_FnExactStandingWords.f (k : Nat) (l0_0 : List (S75)) (a1 : ByteArray) : Option (Bool) := if (a1.size : Int) > 1048576 then (some true) else ((laws_szTrie.f l0_0 1048576).bind fun t416 => (if t416 < 0 then (some true) else ((laws_toTrie.f k l0_0).bind fun t417 => ((spec_StandingWords.f k t417 a1).bind fun bt420 => ((laws_toTrie.f k l0_0).bind fun t424 => ((impl_StandingWords.f k t424 a1).bind fun bt428 => ((laws_eqIntA2S.f bt428.1 bt420.1).bind fun t432 => (if t432 = true then (laws_FnExactStandingWords.j0 k a1 bt420.1 bt420.2 bt428.1 bt428.2 (bt428.2 != bt420.2) l0_0 t424) else (laws_FnExactStandingWords.j0 k a1 bt420.1 bt420.2 bt428.1 bt428.2 true l0_0 t424)))))))))
set_option maxHeartbeats 8000000 in
set_option maxRecDepth 100000 in
theorem laws_FnExactStandingWords.calls (k : Nat) (A0_0 : Option Addr) (c0_0 : Nat) (l0_0 : List (S75)) (a1 : ByteArray) (r : Bool) (w : World) (hr0_0 : Kd.C k75 w A0_0 l0_0.length l0_0) (hc0_0 : l0_0.length ≤ c0_0) (h : laws_FnExactStandingWords.f k l0_0 a1 = some true) :
    Calls Tryz.prog 3 #[.agg #[.slice A0_0 l0_0.length c0_0], .string a1] w fun e w' => e = .returned (.bool true) ∧ Below w.heap.size w w' := by
  have hu24 := Tryz.underlying24
  have hu31 := Tryz.underlying31
  have HR0_0 := Aside0.mk hr0_0
  have HC0_0 := Aside0.mk hc0_0
  clear hr0_0 hc0_0
  have HB := Aside0.mk (Below.refl w.heap.size w)
  have H : (if (a1.size : Int) > 1048576 then (some true) else ((laws_szTrie.f l0_0 1048576).bind fun t416 => (if t416 < 0 then (some true) else ((laws_toTrie.f k l0_0).bind fun t417 => ((spec_StandingWords.f k t417 a1).bind fun bt420 => ((laws_toTrie.f k l0_0).bind fun t424 => ((impl_StandingWords.f k t424 a1).bind fun bt428 => ((laws_eqIntA2S.f bt428.1 bt420.1).bind fun t432 => (if t432 = true then (laws_FnExactStandingWords.j0 k a1 bt420.1 bt420.2 bt428.1 bt428.2 (bt428.2 != bt420.2) l0_0 t424) else (laws_FnExactStandingWords.j0 k a1 bt420.1 bt420.2 bt428.1 bt428.2 true l0_0 t424)))))))))) = some true := h
  clear h
  by_cases c3 : (a1.size : Int) > 1048576
  · rw [if_pos c3] at H
    have c3b0 : decide (1048576 < (a1.size : Int)) = true := decide_eq_true c3
    have c3b1 : decide (1048576 < a1.size) = true := decide_eq_true (by omega)
    clear c3
    (first | (obtain rfl := Option.some.inj H) | (have hH_ := Option.some.inj H; try simp only [hH_]))
    go_enter Tryz.func3, Tryz.ntmps3
    go_wp2_with (first | ((with_reducible refine gate_dst (N := 2) rfl ?_); refine box_event ?hg (N := 2) ?hd (cs := #[.slice A0_0 l0_0.length c0_0]) (t := 24) ?hr ?_; (case hd => rfl); (case hg => rfl); (case hr => first | (go_simp; done) | (go_simp; rfl)); intro gb415 hg w4 hbox hb; have n0_ := Aside0.mk (below_step (by repeat (first | (with_reducible first | exact HB.out | apply below_alloc | apply pw_below_drewN | apply below_drew1) | exact HB.out)) hb); have n1_ := Aside0.mk (hbox); have n2_ := Aside0.mk ((by rw [hg]; exact (below_size (by repeat (first | (with_reducible first | exact HB.out | apply below_alloc | apply pw_below_drewN | apply below_drew1) | exact HB.out))) : w.heap.size ≤ gb415)); have n3_ := Aside0.mk ((by rw [hg]; exact (below_size (by repeat (first | (with_reducible first | exact HB.out | apply below_alloc | apply pw_below_drewN | apply below_drew1) | exact HB.out))) : w.heap.size ≤ gb415)); clear HB; have HB := n0_; have BK415 := n1_; have GW415 := n2_; have GE415 := n3_; clear n0_ n1_ n2_ n3_; clear hb hbox hg))
    go_ret
    exact ⟨by first | rfl | (simp [errW_none, errW_some] <;> rfl) | (simp [*, errW_none, errW_some] <;> rfl), by repeat (first | (with_reducible first | exact HB.out | apply below_alloc | apply pw_below_drewN | apply below_drew1 | refine below_set ?_ GE415.out) | exact HB.out)⟩
  · rw [if_neg c3] at H
    have c3b0 : decide (1048576 < (a1.size : Int)) = false := decide_eq_false c3
    have c3b1 : decide (1048576 < a1.size) = false := decide_eq_false (by omega)
    clear c3
    replace H := Option.bind_eq_some_iff.mp H
    obtain ⟨t416, A50, H⟩ := H
    replace H : (if t416 < 0 then (some true) else ((laws_toTrie.f k l0_0).bind fun t417 => ((spec_StandingWords.f k t417 a1).bind fun bt420 => ((laws_toTrie.f k l0_0).bind fun t424 => ((impl_StandingWords.f k t424 a1).bind fun bt428 => ((laws_eqIntA2S.f bt428.1 bt420.1).bind fun t432 => (if t432 = true then (laws_FnExactStandingWords.j0 k a1 bt420.1 bt420.2 bt428.1 bt428.2 (bt428.2 != bt420.2) l0_0 t424) else (laws_FnExactStandingWords.j0 k a1 bt420.1 bt420.2 bt428.1 bt428.2 true l0_0 t424)))))))) = some true := H
    have A5 := Aside0.mk A50
    clear A50
    by_cases c6 : t416 < 0
    · rw [if_pos c6] at H
      have c6b0 : decide (t416 < 0) = true := decide_eq_true c6
      clear c6
      (first | (obtain rfl := Option.some.inj H) | (have hH_ := Option.some.inj H; try simp only [hH_]))
      go_enter Tryz.func3, Tryz.ntmps3
      go_wp2_with (first | ((with_reducible refine gate_dst (N := 2) rfl ?_); refine box_event ?hg (N := 2) ?hd (cs := #[.slice A0_0 l0_0.length c0_0]) (t := 24) ?hr ?_; (case hd => rfl); (case hg => rfl); (case hr => first | (go_simp; done) | (go_simp; rfl)); intro gb415 hg w7 hbox hb; have n0_ := Aside0.mk (below_step (by repeat (first | (with_reducible first | exact HB.out | apply below_alloc | apply pw_below_drewN | apply below_drew1) | exact HB.out)) hb); have n1_ := Aside0.mk (hbox); have n2_ := Aside0.mk ((by rw [hg]; exact (below_size (by repeat (first | (with_reducible first | exact HB.out | apply below_alloc | apply pw_below_drewN | apply below_drew1) | exact HB.out))) : w.heap.size ≤ gb415)); have n3_ := Aside0.mk ((by rw [hg]; exact (below_size (by repeat (first | (with_reducible first | exact HB.out | apply below_alloc | apply pw_below_drewN | apply below_drew1) | exact HB.out))) : w.heap.size ≤ gb415)); clear HB; have HB := n0_; have BK415 := n1_; have GW415 := n2_; have GE415 := n3_; clear n0_ n1_ n2_ n3_; clear hb hbox hg; have hcz8_0 : w7.cell? ⟨gb415, 0, none⟩ = some (.slice A0_0 l0_0.length c0_0) := (blk_cell BK415.out 0).trans rfl; have hfz8_0 := blk_frozen BK415.out 0) | ((with_reducible refine gate_callee (f := 6) rfl ?_); refine goesL_ (some 21) rfl rfl Tryz.func6 (by kernel_rfl) rfl #[.agg #[.slice A0_0 l0_0.length c0_0], .int .i64 1048576] rfl (by (try simp only [List.map_toArray, List.map_cons, List.map_nil]); first | done | rfl | (simp only [List.length_drop, List.length_take]; rfl)) ?_; (with_reducible refine (laws_szTrie.calls _ _ l0_0 1048576 t416 _ ?side1 ?side2 A5.out).mono ?_); (case side1 => repeat (first | exact (Kd.C_below HR0_0.out HB.out) | (with_reducible refine Kd.C_alloc ?_ _) | (with_reducible refine Kd.C_drewN ?_ _) | (with_reducible refine Kd.C_drew ?_))); (case side2 => exact HC0_0.out); rintro e w9 ⟨rfl, hb⟩; refine ⟨_, rfl, ?_⟩; have n0_ := Aside0.mk (blk_below (g := gb415) (o := .cells #[.slice A0_0 l0_0.length c0_0] 24 (0, 0)) (by (with_reducible repeat (first | refine blk_drewN ?_ _ | refine blk_drew ?_ | refine blk_alloc ?_ _)); exact BK415.out) hb); have n1_ := Aside0.mk (below_step (by repeat (first | (with_reducible first | exact HB.out | apply below_alloc | apply pw_below_drewN | apply below_drew1 | refine below_set ?_ GE415.out) | exact HB.out)) hb); clear BK415; clear HB; have BK415 := n0_; have HB := n1_; clear n0_ n1_; (try clear hb); (try clear hb2); (try clear hk); (try clear hi)))
      go_ret
      exact ⟨by first | rfl | (simp [errW_none, errW_some] <;> rfl) | (simp [*, errW_none, errW_some] <;> rfl), by repeat (first | (with_reducible first | exact HB.out | apply below_alloc | apply pw_below_drewN | apply below_drew1 | refine below_set ?_ GE415.out) | exact HB.out)⟩
    · rw [if_neg c6] at H
      have c6b0 : decide (t416 < 0) = false := decide_eq_false c6
      clear c6
      replace H := Option.bind_eq_some_iff.mp H
      obtain ⟨t417, A100, H⟩ := H
      replace H : ((spec_StandingWords.f k t417 a1).bind fun bt420 => ((laws_toTrie.f k l0_0).bind fun t424 => ((impl_StandingWords.f k t424 a1).bind fun bt428 => ((laws_eqIntA2S.f bt428.1 bt420.1).bind fun t432 => (if t432 = true then (laws_FnExactStandingWords.j0 k a1 bt420.1 bt420.2 bt428.1 bt428.2 (bt428.2 != bt420.2) l0_0 t424) else (laws_FnExactStandingWords.j0 k a1 bt420.1 bt420.2 bt428.1 bt428.2 true l0_0 t424)))))) = some true := H
      have A10 := Aside0.mk A100
      clear A100
      replace H := Option.bind_eq_some_iff.mp H
      obtain ⟨⟨t420, t423⟩, A110, H⟩ := H
      replace H : ((laws_toTrie.f k l0_0).bind fun t424 => ((impl_StandingWords.f k t424 a1).bind fun bt428 => ((laws_eqIntA2S.f bt428.1 t420).bind fun t432 => (if t432 = true then (laws_FnExactStandingWords.j0 k a1 t420 t423 bt428.1 bt428.2 (bt428.2 != t423) l0_0 t424) else (laws_FnExactStandingWords.j0 k a1 t420 t423 bt428.1 bt428.2 true l0_0 t424))))) = some true := H
      have A11 := Aside0.mk A110
      clear A110
      replace H := Option.bind_eq_some_iff.mp H
      obtain ⟨t424, A120, H⟩ := H
      replace H : ((impl_StandingWords.f k t424 a1).bind fun bt428 => ((laws_eqIntA2S.f bt428.1 t420).bind fun t432 => (if t432 = true then (laws_FnExactStandingWords.j0 k a1 t420 t423 bt428.1 bt428.2 (bt428.2 != t423) l0_0 t424) else (laws_FnExactStandingWords.j0 k a1 t420 t423 bt428.1 bt428.2 true l0_0 t424)))) = some true := H
      have A12 := Aside0.mk A120
      clear A120
      replace H := Option.bind_eq_some_iff.mp H
      obtain ⟨⟨t428, t431⟩, A130, H⟩ := H
      replace H : ((laws_eqIntA2S.f t428 t420).bind fun t432 => (if t432 = true then (laws_FnExactStandingWords.j0 k a1 t420 t423 t428 t431 (t431 != t423) l0_0 t424) else (laws_FnExactStandingWords.j0 k a1 t420 t423 t428 t431 true l0_0 t424))) = some true := H
      have A13 := Aside0.mk A130
      clear A130
      have HC14 := Aside0.mk H
      clear H
      go_enter Tryz.func3, Tryz.ntmps3
      go_upto_region 10 with (first | ((with_reducible refine gate_dst (N := 2) rfl ?_); refine box_event ?hg (N := 2) ?hd (cs := #[.slice A0_0 l0_0.length c0_0]) (t := 24) ?hr ?_; (case hd => rfl); (case hg => rfl); (case hr => first | (go_simp; done) | (go_simp; rfl)); intro gb415 hg w15 hbox hb; have n0_ := Aside0.mk (below_step (by repeat (first | (with_reducible first | exact HB.out | apply below_alloc | apply pw_below_drewN | apply below_drew1) | exact HB.out)) hb); have n1_ := Aside0.mk (hbox); have n2_ := Aside0.mk ((by rw [hg]; exact (below_size (by repeat (first | (with_reducible first | exact HB.out | apply below_alloc | apply pw_below_drewN | apply below_drew1) | exact HB.out))) : w.heap.size ≤ gb415)); have n3_ := Aside0.mk ((by rw [hg]; exact (below_size (by repeat (first | (with_reducible first | exact HB.out | apply below_alloc | apply pw_below_drewN | apply below_drew1) | exact HB.out))) : w.heap.size ≤ gb415)); clear HB; have HB := n0_; have BK415 := n1_; have GW415 := n2_; have GE415 := n3_; clear n0_ n1_ n2_ n3_; clear hb hbox hg; have hcz16_0 : w15.cell? ⟨gb415, 0, none⟩ = some (.slice A0_0 l0_0.length c0_0) := (blk_cell BK415.out 0).trans rfl; have hfz16_0 := blk_frozen BK415.out 0) | ((with_reducible refine gate_callee (f := 6) rfl ?_); refine goesL_ (some 21) rfl rfl Tryz.func6 (by kernel_rfl) rfl #[.agg #[.slice A0_0 l0_0.length c0_0], .int .i64 1048576] rfl (by (try simp only [List.map_toArray, List.map_cons, List.map_nil]); first | done | rfl | (simp only [List.length_drop, List.length_take]; rfl)) ?_; (with_reducible refine (laws_szTrie.calls _ _ l0_0 1048576 t416 _ ?side1 ?side2 A5.out).mono ?_); (case side1 => repeat (first | exact (Kd.C_below HR0_0.out HB.out) | (with_reducible refine Kd.C_alloc ?_ _) | (with_reducible refine Kd.C_drewN ?_ _) | (with_reducible refine Kd.C_drew ?_))); (case side2 => exact HC0_0.out); rintro e w17 ⟨rfl, hb⟩; refine ⟨_, rfl, ?_⟩; have n0_ := Aside0.mk (blk_below (g := gb415) (o := .cells #[.slice A0_0 l0_0.length c0_0] 24 (0, 0)) (by (with_reducible repeat (first | refine blk_drewN ?_ _ | refine blk_drew ?_ | refine blk_alloc ?_ _)); exact BK415.out) hb); have n1_ := Aside0.mk (below_step (by repeat (first | (with_reducible first | exact HB.out | apply below_alloc | apply pw_below_drewN | apply below_drew1 | refine below_set ?_ GE415.out) | exact HB.out)) hb); clear BK415; clear HB; have BK415 := n0_; have HB := n1_; clear n0_ n1_; (try clear hb); (try clear hb2); (try clear hk); (try clear hi); have hcz18_0 : w17.cell? ⟨gb415, 0, none⟩ = some (.slice A0_0 l0_0.length c0_0) := (blk_cell BK415.out 0).trans rfl; have hfz18_0 := blk_frozen BK415.out 0) | ((with_reducible refine gate_callee (f := 8) rfl ?_); refine goesL_ (some 26) rfl rfl Tryz.func8 (by kernel_rfl) rfl #[.agg #[.slice A0_0 l0_0.length c0_0]] rfl (by (try simp only [List.map_toArray, List.map_cons, List.map_nil]); first | done | rfl | (simp only [List.length_drop, List.length_take]; rfl)) ?_; (with_reducible refine (laws_toTrie.calls k _ _ l0_0 t417 _ ?side1 ?side2 A10.out).mono ?_); (case side1 => repeat (first | exact (Kd.C_below HR0_0.out HB.out) | (with_reducible refine Kd.C_alloc ?_ _) | (with_reducible refine Kd.C_drewN ?_ _) | (with_reducible refine Kd.C_drew ?_))); (case side2 => exact HC0_0.out); rintro e w19 ⟨v418, rfl, ho0, hb⟩; refine ⟨_, rfl, ?_⟩; have n0_ := Aside0.mk (Kd.R_lower ho0 (below_size (by repeat (first | (with_reducible first | exact HB.out | apply below_alloc | apply pw_below_drewN | apply below_drew1 | refine below_set ?_ GE415.out) | exact HB.out)))); have n1_ := Aside0.mk (blk_below (g := gb415) (o := .cells #[.slice A0_0 l0_0.length c0_0] 24 (0, 0)) (by (with_reducible repeat (first | refine blk_drewN ?_ _ | refine blk_drew ?_ | refine blk_alloc ?_ _)); exact BK415.out) hb); have n2_ := Aside0.mk (below_step (by repeat (first | (with_reducible first | exact HB.out | apply below_alloc | apply pw_below_drewN | apply below_drew1 | refine below_set ?_ GE415.out) | exact HB.out)) hb); clear BK415; clear HB; have HO419 := n0_; have BK415 := n1_; have HB := n2_; clear n0_ n1_ n2_; (try clear hb); (try clear hb2); (try clear hk); (try clear hi); (try clear ho0); obtain ⟨Ao20, co20, eo20⟩ := Kd.R_slice HO419.out; subst eo20) | ((with_reducible refine gate_callee (f := 7) rfl ?_); refine goesL_ (some 28) rfl rfl Tryz.func7 (by kernel_rfl) rfl #[.agg #[.slice Ao20 t417.length co20], .string a1] rfl (by (try simp only [List.map_toArray, List.map_cons, List.map_nil]); first | done | rfl | (simp only [List.length_drop, List.length_take]; rfl)) ?_; (with_reducible refine (spec_StandingWords.calls k _ _ t417 a1 t420 t423 _ ?side1 ?side2 A11.out).mono ?_); (case side1 => repeat (first | exact (Kd.R_reads' HO419.out).2.2 | (with_reducible refine Kd.C_alloc ?_ _) | (with_reducible refine Kd.C_drewN ?_ _) | (with_reducible refine Kd.C_drew ?_))); (case side2 => exact (Kd.R_reads' HO419.out).2.1); rintro e w21 ⟨v421, rfl, ho0, hb⟩; refine ⟨_, rfl, ?_⟩; have n0_ := Aside0.mk (Kd.R_below (by (with_reducible repeat (first | apply Kd.R_alloc | apply Kd.R_drewN | apply Kd.R_drew)); exact HO419.out) hb); have n1_ := Aside0.mk (Kd.R_lower ho0 (below_size (by repeat (first | (with_reducible first | exact HB.out | apply below_alloc | apply pw_below_drewN | apply below_drew1 | refine below_set ?_ GE415.out) | exact HB.out)))); have n2_ := Aside0.mk (blk_below (g := gb415) (o := .cells #[.slice A0_0 l0_0.length c0_0] 24 (0, 0)) (by (with_reducible repeat (first | refine blk_drewN ?_ _ | refine blk_drew ?_ | refine blk_alloc ?_ _)); exact BK415.out) hb); have n3_ := Aside0.mk (below_step (by repeat (first | (with_reducible first | exact HB.out | apply below_alloc | apply pw_below_drewN | apply below_drew1 | refine below_set ?_ GE415.out) | exact HB.out)) hb); clear HO419; clear BK415; clear HB; have HO419 := n0_; have HO422 := n1_; have BK415 := n2_; have HB := n3_; clear n0_ n1_ n2_ n3_; (try clear hb); (try clear hb2); (try clear hk); (try clear hi); (try clear ho0); have hcz22_0 : w21.cell? ⟨gb415, 0, none⟩ = some (.slice A0_0 l0_0.length c0_0) := (blk_cell BK415.out 0).trans rfl; have hfz22_0 := blk_frozen BK415.out 0) | ((with_reducible refine gate_callee (f := 8) rfl ?_); refine goesL_ (some 32) rfl rfl Tryz.func8 (by kernel_rfl) rfl #[.agg #[.slice A0_0 l0_0.length c0_0]] rfl (by (try simp only [List.map_toArray, List.map_cons, List.map_nil]); first | done | rfl | (simp only [List.length_drop, List.length_take]; rfl)) ?_; (with_reducible refine (laws_toTrie.calls k _ _ l0_0 t424 _ ?side1 ?side2 A12.out).mono ?_); (case side1 => repeat (first | exact (Kd.C_below HR0_0.out HB.out) | (with_reducible refine Kd.C_alloc ?_ _) | (with_reducible refine Kd.C_drewN ?_ _) | (with_reducible refine Kd.C_drew ?_))); (case side2 => exact HC0_0.out); rintro e w23 ⟨v425, rfl, ho0, hb⟩; refine ⟨_, rfl, ?_⟩; have n0_ := Aside0.mk (Kd.R_elder' (by (with_reducible repeat (first | apply Kd.R_alloc | apply Kd.R_drewN | apply Kd.R_drew)); exact HO419.out) (Kd.R_base ho0) hb); have n1_ := Aside0.mk (Kd.R_below (by (with_reducible repeat (first | apply Kd.R_alloc | apply Kd.R_drewN | apply Kd.R_drew)); exact HO422.out) hb); have n2_ := Aside0.mk (Kd.R_lower (Kd.R_new' ho0 (Kd.R_lt (by (with_reducible repeat (first | apply Kd.R_alloc | apply Kd.R_drewN | apply Kd.R_drew)); exact HO419.out))) (below_size (by repeat (first | (with_reducible first | exact HB.out | apply below_alloc | apply pw_below_drewN | apply below_drew1 | refine below_set ?_ GE415.out) | exact HB.out)))); have n3_ := Aside0.mk (blk_below (g := gb415) (o := .cells #[.slice A0_0 l0_0.length c0_0] 24 (0, 0)) (by (with_reducible repeat (first | refine blk_drewN ?_ _ | refine blk_drew ?_ | refine blk_alloc ?_ _)); exact BK415.out) hb); have n4_ := Aside0.mk (below_step (by repeat (first | (with_reducible first | exact HB.out | apply below_alloc | apply pw_below_drewN | apply below_drew1 | refine below_set ?_ GE415.out) | exact HB.out)) hb); clear HO419; clear HO422; clear BK415; clear HB; have HO419 := n0_; have HO422 := n1_; have HO426 := n2_; have BK415 := n3_; have HB := n4_; clear n0_ n1_ n2_ n3_ n4_; (try clear hb); (try clear hb2); (try clear hk); (try clear hi); (try clear ho0)) | ((with_reducible refine gate_dst (N := 8) rfl ?_); refine box_event ?hg (N := 8) ?hd (cs := #[.slice none 0 0]) (t := 31) ?hr ?_; (case hd => rfl); (case hg => rfl); (case hr => first | (go_simp; done) | (go_simp; rfl)); intro gb427 hg w24 hbox hb; have n0_ := Aside0.mk (Kd.R_below (by (with_reducible repeat (first | apply Kd.R_alloc | apply Kd.R_drewN | apply Kd.R_drew)); exact HO419.out) hb); have n1_ := Aside0.mk (Kd.R_below (by (with_reducible repeat (first | apply Kd.R_alloc | apply Kd.R_drewN | apply Kd.R_drew)); exact HO422.out) hb); have n2_ := Aside0.mk (Kd.R_below (by (with_reducible repeat (first | apply Kd.R_alloc | apply Kd.R_drewN | apply Kd.R_drew)); exact HO426.out) hb); have n3_ := Aside0.mk (blk_below (g := gb415) (o := .cells #[.slice A0_0 l0_0.length c0_0] 24 (0, 0)) (by (with_reducible repeat (first | refine blk_drewN ?_ _ | refine blk_drew ?_ | refine blk_alloc ?_ _)); exact BK415.out) hb); have n4_ := Aside0.mk (below_step (by repeat (first | (with_reducible first | exact HB.out | apply below_alloc | apply pw_below_drewN | apply below_drew1 | refine below_set ?_ GE415.out) | exact HB.out)) hb); have n5_ := Aside0.mk (hbox); have n6_ := Aside0.mk ((by rw [hg]; exact (below_size (by repeat (first | (with_reducible first | exact HB.out | apply below_alloc | apply pw_below_drewN | apply below_drew1 | refine below_set ?_ GE415.out) | exact HB.out))) : w.heap.size ≤ gb427)); have n7_ := Aside0.mk ((by rw [hg]; exact (below_size (by repeat (first | (with_reducible first | exact HB.out | apply below_alloc | apply pw_below_drewN | apply below_drew1 | refine below_set ?_ GE415.out) | exact HB.out))) : w.heap.size ≤ gb427)); have n8_ := Aside0.mk ((by rw [hg]; exact Nat.ne_of_lt (blk_lt (g := gb415) (o := .cells #[.slice A0_0 l0_0.length c0_0] 24 (0, 0)) (by (with_reducible repeat (first | refine blk_drewN ?_ _ | refine blk_drew ?_ | refine blk_alloc ?_ _)); exact BK415.out)) : gb415 ≠ gb427)); have n9_ := Aside0.mk ((by rw [hg]; exact Nat.ne_of_gt (blk_lt (g := gb415) (o := .cells #[.slice A0_0 l0_0.length c0_0] 24 (0, 0)) (by (with_reducible repeat (first | refine blk_drewN ?_ _ | refine blk_drew ?_ | refine blk_alloc ?_ _)); exact BK415.out)) : gb427 ≠ gb415)); clear HO419; clear HO422; clear HO426; clear BK415; clear HB; have HO419 := n0_; have HO422 := n1_; have HO426 := n2_; have BK415 := n3_; have HB := n4_; have BK427 := n5_; have GW427 := n6_; have GE427 := n7_; have NB415_427 := n8_; have NB427_415 := n9_; clear n0_ n1_ n2_ n3_ n4_ n5_ n6_ n7_ n8_ n9_; clear hb hbox hg; obtain ⟨Ao25, co25, eo25⟩ := Kd.R_slice HO426.out; subst eo25; have hnb26 := NB427_415.out; have hnc26 := NB415_427.out; have hcz27_0 : w24.cell? ⟨gb427, 0, none⟩ = some (.slice none 0 0) := (blk_cell BK427.out 0).trans rfl; have hfz27_0 := blk_frozen BK427.out 0) | ((with_reducible refine gate_callee (f := 9) rfl ?_); refine goesL_ (some 36) rfl rfl Tryz.func9 (by kernel_rfl) rfl #[.agg #[.slice Ao25 t424.length co25], .string a1] rfl (by (try simp only [List.map_toArray, List.map_cons, List.map_nil]); first | done | rfl | (simp only [List.length_drop, List.length_take]; rfl)) ?_; (with_reducible refine (impl_StandingWords.calls k _ _ t424 a1 t428 t431 _ ?side1 ?side2 A13.out).mono ?_); (case side1 => refine (Kd.R_reads' (e := 70) (base := w.heap.size) (ok := fun k_ => (True ∧ some k_ ≠ (.slice Ao20 t417.length co20 : Value).ownBlock)) (n := t424.length) (c := co25) ?_).2.2; exact (by (with_reducible repeat (first | apply Kd.R_alloc | apply Kd.R_drewN | apply Kd.R_drew)); exact (Kd.R_mono (R_same_ (Kd.R_far (p := ⟨gb427, 0, none⟩) (Kd.R_types HO426.out BK427.out (by decide)) (fun _ hk => hk.2) (.slice Ao25 t424.length co25)) rfl) (fun _ h_ => h_.1)))); (case side2 => exact (Kd.R_reads' HO426.out).2.1); rintro e w28 ⟨v429, rfl, ho0, hb⟩; refine ⟨_, rfl, ?_⟩; have n0_ := Aside0.mk (Kd.R_below (by (with_reducible repeat (first | apply Kd.R_alloc | apply Kd.R_drewN | apply Kd.R_drew)); exact (Kd.R_mono (R_same_ (Kd.R_far (p := ⟨gb427, 0, none⟩) (Kd.R_types HO419.out BK427.out (by decide)) (fun _ hk => hk.2) (.slice Ao25 t424.length co25)) rfl) (fun _ h_ => h_.1))) hb); have n1_ := Aside0.mk (Kd.R_elder' (by (with_reducible repeat (first | apply Kd.R_alloc | apply Kd.R_drewN | apply Kd.R_drew)); exact (Kd.R_mono (R_same_ (Kd.R_far (p := ⟨gb427, 0, none⟩) (Kd.R_types HO422.out BK427.out (by decide)) (fun _ hk => hk.2) (.slice Ao25 t424.length co25)) rfl) (fun _ h_ => h_.1))) (Kd.R_base ho0) hb); have n2_ := Aside0.mk (Kd.R_below (by (with_reducible repeat (first | apply Kd.R_alloc | apply Kd.R_drewN | apply Kd.R_drew)); exact (Kd.R_mono (R_same_ (Kd.R_far (p := ⟨gb427, 0, none⟩) (Kd.R_types HO426.out BK427.out (by decide)) (fun _ hk => hk.2) (.slice Ao25 t424.length co25)) rfl) (fun _ h_ => h_.1))) hb); have n3_ := Aside0.mk (Kd.R_lower (Kd.R_new' ho0 (Kd.R_lt (by (with_reducible repeat (first | apply Kd.R_alloc | apply Kd.R_drewN | apply Kd.R_drew)); exact (Kd.R_mono (R_same_ (Kd.R_far (p := ⟨gb427, 0, none⟩) (Kd.R_types HO422.out BK427.out (by decide)) (fun _ hk => hk.2) (.slice Ao25 t424.length co25)) rfl) (fun _ h_ => h_.1))))) (below_size (by repeat (first | (with_reducible first | exact HB.out | apply below_alloc | apply pw_below_drewN | apply below_drew1 | refine below_set ?_ GE415.out | refine below_set ?_ GE427.out) | exact HB.out)))); have n4_ := Aside0.mk (blk_below (g := gb415) (o := .cells #[.slice A0_0 l0_0.length c0_0] 24 (0, 0)) (by (with_reducible repeat (first | refine blk_drewN ?_ _ | refine blk_drew ?_ | refine blk_alloc ?_ _)); refine blk_far ?_ NB415_427.out _; (with_reducible repeat (first | refine blk_drewN ?_ _ | refine blk_drew ?_ | refine blk_alloc ?_ _)); exact BK415.out) hb); have n5_ := Aside0.mk (blk_below (g := gb427) (o := .cells #[.slice Ao25 t424.length co25] 31 (0, 0)) (by (with_reducible repeat (first | refine blk_drewN ?_ _ | refine blk_drew ?_ | refine blk_alloc ?_ _)); refine blk_put (cs := #[.slice none 0 0]) ?_ 0 _ rfl; (with_reducible repeat (first | refine blk_drewN ?_ _ | refine blk_drew ?_ | refine blk_alloc ?_ _)); exact BK427.out) hb); have n6_ := Aside0.mk (below_step (by repeat (first | (with_reducible first | exact HB.out | apply below_alloc | apply pw_below_drewN | apply below_drew1 | refine below_set ?_ GE415.out | refine below_set ?_ GE427.out) | exact HB.out)) hb); clear HO419; clear HO422; clear HO426; clear BK415; clear BK427; clear HB; have HO419 := n0_; have HO422 := n1_; have HO426 := n2_; have HO430 := n3_; have BK415 := n4_; have BK427 := n5_; have HB := n6_; clear n0_ n1_ n2_ n3_ n4_ n5_ n6_; (try clear hb); (try clear hb2); (try clear hk); (try clear hi); (try clear ho0)))
      (try simp only [Act.put, List.setIfInBounds_toArray, List.set_cons_zero, List.set_cons_succ])
      go_cut [47] (fun v47 wc => ∃ (kq : Nat) (x47_13 : Bool), v47 = .bool x47_13 ∧ Aside0 (laws_FnExactStandingWords.j0 kq a1 t420 t423 t428 t431 x47_13 l0_0 t424 = some true) ∧ Aside0 (kq ≤ k) ∧ Aside0 (Kd.R k52 52 wc w.heap.size (fun k_ => some k_ ≠ (v429 : Value).ownBlock) v421 t420) ∧ Aside0 (Kd.R k52 52 wc w.heap.size (fun k_ => some k_ ≠ (v421 : Value).ownBlock) v429 t428) ∧ Aside0 (Kd.R k70 70 wc w.heap.size (fun _ => True) (.slice Ao25 t424.length co25) t424) ∧ Aside0 (wc.heap[gb415]? = some (.cells #[(.slice A0_0 l0_0.length c0_0)] 24 (0, 0))) ∧ Aside0 (wc.heap[gb427]? = some (.cells #[(.slice Ao25 t424.length co25)] 31 (0, 0))) ∧ Aside0 (Below w.heap.size w wc))
      case first =>
        have H := HC14.out
        clear HC14
        replace H := Option.bind_eq_some_iff.mp H
        obtain ⟨t432, A290, H⟩ := H
        replace H : (if t432 = true then (laws_FnExactStandingWords.j0 k a1 t420 t423 t428 t431 (t431 != t423) l0_0 t424) else (laws_FnExactStandingWords.j0 k a1 t420 t423 t428 t431 true l0_0 t424)) = some true := H
        have A29 := Aside0.mk A290
        clear A290
        by_cases c30 : t432 = true
        · subst c30
          have H1 : (laws_FnExactStandingWords.j0 k a1 t420 t423 t428 t431 (t431 != t423) l0_0 t424) = some true := by rw [if_pos rfl] at H; exact H
          clear H
          have H := H1
          clear H1
          have H' := Aside0.mk H
          clear H
          obtain ⟨Ao31, co31, eo31⟩ := Kd.R_slice HO430.out
          subst eo31
          obtain ⟨Ao32, co32, eo32⟩ := Kd.R_slice HO422.out
          subst eo32
          go_wp2_with (first | ((with_reducible refine gate_callee (f := 10) rfl ?_); refine goesL_ (some 41) rfl rfl Tryz.func10 (by kernel_rfl) rfl #[.slice Ao31 t428.length co31, .slice Ao32 t420.length co32] rfl (by (try simp only [List.map_toArray, List.map_cons, List.map_nil]); first | done | rfl | (simp only [List.length_drop, List.length_take]; rfl)) ?_; (with_reducible refine (laws_eqIntA2S.calls _ _ t428 _ _ t420 true _ ?side1 ?side2 ?side3 ?side4 A29.out).mono ?_); (case side1 => repeat (first | exact (Kd.R_reads' HO430.out).2.2 | (with_reducible refine Kd.C_alloc ?_ _) | (with_reducible refine Kd.C_drewN ?_ _) | (with_reducible refine Kd.C_drew ?_))); (case side2 => exact (Kd.R_reads' HO430.out).2.1); (case side3 => repeat (first | exact (Kd.R_reads' HO422.out).2.2 | (with_reducible refine Kd.C_alloc ?_ _) | (with_reducible refine Kd.C_drewN ?_ _) | (with_reducible refine Kd.C_drew ?_))); (case side4 => exact (Kd.R_reads' HO422.out).2.1); rintro e w33 ⟨rfl, hb⟩; refine ⟨_, rfl, ?_⟩; have n0_ := Aside0.mk (Kd.R_below (by (with_reducible repeat (first | apply Kd.R_alloc | apply Kd.R_drewN | apply Kd.R_drew)); exact HO419.out) hb); have n1_ := Aside0.mk (Kd.R_below (by (with_reducible repeat (first | apply Kd.R_alloc | apply Kd.R_drewN | apply Kd.R_drew)); exact HO422.out) hb); have n2_ := Aside0.mk (Kd.R_below (by (with_reducible repeat (first | apply Kd.R_alloc | apply Kd.R_drewN | apply Kd.R_drew)); exact HO426.out) hb); have n3_ := Aside0.mk (Kd.R_below (by (with_reducible repeat (first | apply Kd.R_alloc | apply Kd.R_drewN | apply Kd.R_drew)); exact HO430.out) hb); have n4_ := Aside0.mk (blk_below (g := gb415) (o := .cells #[.slice A0_0 l0_0.length c0_0] 24 (0, 0)) (by (with_reducible repeat (first | refine blk_drewN ?_ _ | refine blk_drew ?_ | refine blk_alloc ?_ _)); exact BK415.out) hb); have n5_ := Aside0.mk (blk_below (g := gb427) (o := .cells #[.slice Ao25 t424.length co25] 31 (0, 0)) (by (with_reducible repeat (first | refine blk_drewN ?_ _ | refine blk_drew ?_ | refine blk_alloc ?_ _)); exact BK427.out) hb); have n6_ := Aside0.mk (below_step (by repeat (first | (with_reducible first | exact HB.out | apply below_alloc | apply pw_below_drewN | apply below_drew1 | refine below_set ?_ GE415.out | refine below_set ?_ GE427.out) | exact HB.out)) hb); clear HO419; clear HO422; clear HO426; clear HO430; clear BK415; clear BK427; clear HB; have HO419 := n0_; have HO422 := n1_; have HO426 := n2_; have HO430 := n3_; have BK415 := n4_; have BK427 := n5_; have HB := n6_; clear n0_ n1_ n2_ n3_ n4_ n5_ n6_; (try clear hb); (try clear hb2); (try clear hk); (try clear hi)))
          go_meet
          case rel => exact ⟨_, ((t431 != t423)), (by first | rfl | (simp; done) | (simp [*]; done)), H', ⟨by first | omega | exact Nat.le_refl _⟩, ⟨by (with_reducible repeat (first | apply Kd.R_alloc | apply Kd.R_drewN | apply Kd.R_drew)); exact Kd.R_mono HO422.out (fun _ hk => hk.2)⟩, ⟨by (with_reducible repeat (first | apply Kd.R_alloc | apply Kd.R_drewN | apply Kd.R_drew)); exact Kd.R_mono HO430.out (fun _ hk => hk.2)⟩, ⟨by (with_reducible repeat (first | apply Kd.R_alloc | apply Kd.R_drewN | apply Kd.R_drew)); exact Kd.R_mono HO426.out (fun _ hk => trivial)⟩, ⟨by (with_reducible repeat (first | refine blk_drewN ?_ _ | refine blk_drew ?_ | refine blk_alloc ?_ _)); exact BK415.out⟩, ⟨by (with_reducible repeat (first | refine blk_drewN ?_ _ | refine blk_drew ?_ | refine blk_alloc ?_ _)); exact BK427.out⟩, ⟨by repeat (first | (with_reducible first | exact HB.out | apply below_alloc | apply pw_below_drewN | apply below_drew1 | refine below_set ?_ GE415.out | refine below_set ?_ GE427.out) | exact HB.out)⟩⟩
        · replace c30 := Bool.eq_false_iff.mpr c30
          subst c30
          have H1 : (laws_FnExactStandingWords.j0 k a1 t420 t423 t428 t431 true l0_0 t424) = some true := by rw [if_neg (show ¬ (false = true) by decide)] at H; exact H
          exact absurd H1 (by cases k <;> simp [laws_FnExactStandingWords.j0])
      case rest =>
        clear HC14
        try clear c1
        try clear c2
        try clear p2
        try clear c3
        try clear c3b0
        try clear c3b1
        try clear c6
        try clear c6b0
        try clear c7
        try clear c8
        try clear c9
        try clear c10
        try clear c26
        try clear c30
        try clear hcz16_0
        try clear hcz18_0
        try clear hcz22_0
        try clear hcz27_0
        try clear hcz8_0
        try clear hfz16_0
        try clear hfz18_0
        try clear hfz22_0
        try clear hfz27_0
        try clear hfz8_0
        obtain ⟨kq, x47_13, rfl, HA, HJ13, HO_6, HO_9, HO_428000, BK415, BK427, HB⟩ := hcut
        cases kq with
        | zero => exact absurd HA.out (by simp [laws_FnExactStandingWords.j0])
        | succ kj13 =>
          have H := HA.out
          clear HA
          simp only [laws_FnExactStandingWords.j0] at H
          by_cases c37 : x47_13 = true
          · subst c37
            have H1 : (some false) = some true := by rw [if_pos rfl] at H; exact H
            exact absurd H1 (by simp)
          · replace c37 := Bool.eq_false_iff.mpr c37
            subst c37
            have H1 : ((laws_toTrie.f kj13 l0_0).bind fun t433 => ((laws_eqTrie.f kj13 t424 t433).bind fun t436 => (if t436 = true then ((laws_markTrie.f kj13 t424 1).bind fun bt437 => (if bt437.1 < 0 then (laws_FnExactStandingWords.j1 kj13 a1 t420 t423 t428 true l0_0) else ((laws_eqIntA2S.f t428 t420).bind fun t439 => (if t439 = true then (laws_FnExactStandingWords.j1 kj13 a1 t420 t423 t428 (t431 != t423) l0_0) else (laws_FnExactStandingWords.j1 kj13 a1 t420 t423 t428 true l0_0))))) else (some false)))) = some true := by rw [if_neg (show ¬ (false = true) by decide)] at H; exact H
            clear H
            have H := H1
            clear H1
            replace H := Option.bind_eq_some_iff.mp H
            obtain ⟨t433, A380, H⟩ := H
            replace H : ((laws_eqTrie.f kj13 t424 t433).bind fun t436 => (if t436 = true then ((laws_markTrie.f kj13 t424 1).bind fun bt437 => (if bt437.1 < 0 then (laws_FnExactStandingWords.j1 kj13 a1 t420 t423 t428 true l0_0) else ((laws_eqIntA2S.f t428 t420).bind fun t439 => (if t439 = true then (laws_FnExactStandingWords.j1 kj13 a1 t420 t423 t428 (t431 != t423) l0_0) else (laws_FnExactStandingWords.j1 kj13 a1 t420 t423 t428 true l0_0))))) else (some false))) = some true := H
            have A38 := Aside0.mk A380
            clear A380
            replace H := Option.bind_eq_some_iff.mp H
            obtain ⟨t436, A390, H⟩ := H
            replace H : (if t436 = true then ((laws_markTrie.f kj13 t424 1).bind fun bt437 => (if bt437.1 < 0 then (laws_FnExactStandingWords.j1 kj13 a1 t420 t423 t428 true l0_0) else ((laws_eqIntA2S.f t428 t420).bind fun t439 => (if t439 = true then (laws_FnExactStandingWords.j1 kj13 a1 t420 t423 t428 (t431 != t423) l0_0) else (laws_FnExactStandingWords.j1 kj13 a1 t420 t423 t428 true l0_0))))) else (some false)) = some true := H
            have A39 := Aside0.mk A390
            clear A390
            by_cases c40 : t436 = true
            · subst c40
              have H1 : ((laws_markTrie.f kj13 t424 1).bind fun bt437 => (if bt437.1 < 0 then (laws_FnExactStandingWords.j1 kj13 a1 t420 t423 t428 true l0_0) else ((laws_eqIntA2S.f t428 t420).bind fun t439 => (if t439 = true then (laws_FnExactStandingWords.j1 kj13 a1 t420 t423 t428 (t431 != t423) l0_0) else (laws_FnExactStandingWords.j1 kj13 a1 t420 t423 t428 true l0_0))))) = some true := by rw [if_pos rfl] at H; exact H
              clear H
              have H := H1
              clear H1
              replace H := Option.bind_eq_some_iff.mp H
              obtain ⟨⟨t437, t438⟩, A410, H⟩ := H
              replace H : (if t437 < 0 then (laws_FnExactStandingWords.j1 kj13 a1 t420 t423 t428 true l0_0) else ((laws_eqIntA2S.f t428 t420).bind fun t439 => (if t439 = true then (laws_FnExactStandingWords.j1 kj13 a1 t420 t423 t428 (t431 != t423) l0_0) else (laws_FnExactStandingWords.j1 kj13 a1 t420 t423 t428 true l0_0)))) = some true := H
              have A41 := Aside0.mk A410
              clear A410
              have HC42 := Aside0.mk H
              clear H
              try go_wp2
              have n0_ := Aside0.mk (Kd.R_drew HO_6.out)
              have n1_ := Aside0.mk (Kd.R_drew HO_9.out)
              have n2_ := Aside0.mk (Kd.R_drew HO_428000.out)
              have n3_ := Aside0.mk (blk_drew BK415.out)
              have n4_ := Aside0.mk (blk_drew BK427.out)
              have n5_ := Aside0.mk (below_drew1 HB.out)
              clear HO_6
              clear HO_9
              clear HO_428000
              clear BK415
              clear BK427
              clear HB
              have HO_6 := n0_
              have HO_9 := n1_
              have HO_428000 := n2_
              have BK415 := n3_
              have BK427 := n4_
              have HB := n5_
              clear n0_ n1_ n2_ n3_ n4_ n5_
              refine start_ (n := 5) (S := fun w' => w'.cell? ⟨gb427, 0, none⟩ = some (.slice Ao25 t424.length co25) ∧ w'.cell? ⟨gb415, 0, none⟩ = some (.slice A0_0 l0_0.length c0_0)) (ds := []) #[false, false, false, false, false] (by kernel_rfl) rfl rfl ⟨(blk_cell BK427.out 0).trans rfl, (blk_cell BK415.out 0).trans rfl⟩ (fun hHeld => ?_)
              generalize wc.drew = w43 at HO_6 HO_9 HO_428000 BK415 BK427 HB hHeld ⊢
              refine take_ (i := 0) (N := some 48) (v := ?_) (a' := ?_) #[true, false, false, false, false] rfl rfl (by kernel_rfl) (fun _ _ _ h => h) (Or.inl ⟨by rfl, ?_⟩) hHeld ?_ ?_
              rotate_left
              · rintro w' ⟨s0, s1⟩
                go_simp
                with_reducible rfl
              rotate_left
              · simp only [Act.put, List.setIfInBounds_toArray, List.set_cons_zero, List.set_cons_succ, i64_w, i32_w]
                rfl
              refine take_ (i := 1) (N := some 49) (v := ?_) (a' := ?_) #[true, true, false, false, false] rfl rfl (by kernel_rfl) (fun _ _ _ h => h) (Or.inl ⟨by rfl, ?_⟩) hHeld ?_ ?_
              rotate_left
              · rintro w' ⟨s0, s1⟩
                go_simp
                with_reducible rfl
              rotate_left
              · simp only [Act.put, List.setIfInBounds_toArray, List.set_cons_zero, List.set_cons_succ, i64_w, i32_w]
                rfl
              refine one_ (i := 2) (N := some 50) #[true, true, true, false, false] rfl rfl (by kernel_rfl) (by decide) (fun K hK => ?_)
              refine goes_ Tryz.func8 (by kernel_rfl) rfl #[.agg #[.slice A0_0 l0_0.length c0_0]] (by rfl) rfl rfl (by (try simp only [List.map_toArray, List.map_cons, List.map_nil]); first | done | rfl | (simp only [List.length_drop, List.length_take]; rfl)) ?_
              with_reducible refine (laws_toTrie.calls kj13 _ _ l0_0 t433 _ ?side1 ?side2 A38.out).mono ?_
              (case side1 => repeat (first | exact (Kd.C_below HR0_0.out HB.out) | (with_reducible refine Kd.C_alloc ?_ _) | (with_reducible refine Kd.C_drewN ?_ _) | (with_reducible refine Kd.C_drew ?_)))
              (case side2 => exact HC0_0.out)
              rintro e w44 ⟨v434, rfl, ho0, hb⟩
              refine ⟨_, rfl, ?_⟩
              have n0_ := Aside0.mk (Kd.R_below (by (with_reducible repeat (first | apply Kd.R_alloc | apply Kd.R_drewN | apply Kd.R_drew)); exact HO_6.out) hb)
              have n1_ := Aside0.mk (Kd.R_below (by (with_reducible repeat (first | apply Kd.R_alloc | apply Kd.R_drewN | apply Kd.R_drew)); exact HO_9.out) hb)
              have n2_ := Aside0.mk (Kd.R_elder' (by (with_reducible repeat (first | apply Kd.R_alloc | apply Kd.R_drewN | apply Kd.R_drew)); exact HO_428000.out) (Kd.R_base ho0) hb)
              have n3_ := Aside0.mk (Kd.R_lower (Kd.R_new' ho0 (Kd.R_lt (by (with_reducible repeat (first | apply Kd.R_alloc | apply Kd.R_drewN | apply Kd.R_drew)); exact HO_428000.out))) (below_size (by repeat (first | (with_reducible first | exact HB.out | apply below_alloc | apply pw_below_drewN | apply below_drew1 | refine below_set ?_ GE415.out | refine below_set ?_ GE427.out) | exact HB.out))))
              have n4_ := Aside0.mk (blk_below (g := gb415) (o := .cells #[.slice A0_0 l0_0.length c0_0] 24 (0, 0)) (by (with_reducible repeat (first | refine blk_drewN ?_ _ | refine blk_drew ?_ | refine blk_alloc ?_ _)); exact BK415.out) hb)
              have n5_ := Aside0.mk (blk_below (g := gb427) (o := .cells #[.slice Ao25 t424.length co25] 31 (0, 0)) (by (with_reducible repeat (first | refine blk_drewN ?_ _ | refine blk_drew ?_ | refine blk_alloc ?_ _)); exact BK427.out) hb)
              have n6_ := Aside0.mk (below_step (by repeat (first | (with_reducible first | exact HB.out | apply below_alloc | apply pw_below_drewN | apply below_drew1 | refine below_set ?_ GE415.out | refine below_set ?_ GE427.out) | exact HB.out)) hb)
              clear HO_6
              clear HO_9
              clear HO_428000
              clear BK415
              clear BK427
              clear HB
              have HO_6 := n0_
              have HO_9 := n1_
              have HO_428000 := n2_
              have HO435 := n3_
              have BK415 := n4_
              have BK427 := n5_
              have HB := n6_
              clear n0_ n1_ n2_ n3_ n4_ n5_ n6_
              (try clear hb)
              (try clear hb2)
              (try clear hk)
              (try clear hi)
              (try clear ho0)
              obtain ⟨Ao45, co45, eo45⟩ := Kd.R_slice HO435.out
              (first | subst eo45 | (injection eo45 with f1_ f2_ f3_; have f4_ := f1_.symm; have f5_ := f3_.symm; clear f1_ f2_ f3_; subst f4_; subst f5_))
              refine hK.out _ _ ⟨(blk_cell BK427.out 0).trans rfl, (blk_cell BK415.out 0).trans rfl⟩ (fun hHeld => ?_)
              clear hK K
              refine norm_ (a' := ?_) ?_ ?_
              rotate_left
              · show Act.put _ (some 50) _ = _
                simp only [Act.put, List.setIfInBounds_toArray, List.set_cons_zero, List.set_cons_succ, i64_w, i32_w]
                rfl
              refine one_ (i := 3) (N := some 51) #[true, true, true, true, false] rfl rfl (by kernel_rfl) (by decide) (fun K hK => ?_)
              refine goes_ Tryz.func11 (by kernel_rfl) rfl #[.agg #[.slice Ao25 t424.length co25], .agg #[.slice Ao45 t433.length co45]] (by rfl) rfl rfl (by (try simp only [List.map_toArray, List.map_cons, List.map_nil]); first | done | rfl | (simp only [List.length_drop, List.length_take]; rfl)) ?_
              with_reducible refine (laws_eqTrie.calls kj13 _ _ t424 _ _ t433 true _ ?side1 ?side2 ?side3 ?side4 A39.out).mono ?_
              (case side1 => repeat (first | exact (Kd.R_reads' HO_428000.out).2.2 | (with_reducible refine Kd.C_alloc ?_ _) | (with_reducible refine Kd.C_drewN ?_ _) | (with_reducible refine Kd.C_drew ?_)))
              (case side2 => exact (Kd.R_reads' HO_428000.out).2.1)
              (case side3 => repeat (first | exact (Kd.R_reads' HO435.out).2.2 | (with_reducible refine Kd.C_alloc ?_ _) | (with_reducible refine Kd.C_drewN ?_ _) | (with_reducible refine Kd.C_drew ?_)))
              (case side4 => exact (Kd.R_reads' HO435.out).2.1)
              rintro e w46 ⟨rfl, hb⟩
              refine ⟨_, rfl, ?_⟩
              have n0_ := Aside0.mk (Kd.R_below (by (with_reducible repeat (first | apply Kd.R_alloc | apply Kd.R_drewN | apply Kd.R_drew)); exact HO_6.out) hb)
              have n1_ := Aside0.mk (Kd.R_below (by (with_reducible repeat (first | apply Kd.R_alloc | apply Kd.R_drewN | apply Kd.R_drew)); exact HO_9.out) hb)
              have n2_ := Aside0.mk (Kd.R_below (by (with_reducible repeat (first | apply Kd.R_alloc | apply Kd.R_drewN | apply Kd.R_drew)); exact HO_428000.out) hb)
              have n3_ := Aside0.mk (Kd.R_below (by (with_reducible repeat (first | apply Kd.R_alloc | apply Kd.R_drewN | apply Kd.R_drew)); exact HO435.out) hb)
              have n4_ := Aside0.mk (blk_below (g := gb415) (o := .cells #[.slice A0_0 l0_0.length c0_0] 24 (0, 0)) (by (with_reducible repeat (first | refine blk_drewN ?_ _ | refine blk_drew ?_ | refine blk_alloc ?_ _)); exact BK415.out) hb)
              have n5_ := Aside0.mk (blk_below (g := gb427) (o := .cells #[.slice Ao25 t424.length co25] 31 (0, 0)) (by (with_reducible repeat (first | refine blk_drewN ?_ _ | refine blk_drew ?_ | refine blk_alloc ?_ _)); exact BK427.out) hb)
              have n6_ := Aside0.mk (below_step (by repeat (first | (with_reducible first | exact HB.out | apply below_alloc | apply pw_below_drewN | apply below_drew1 | refine below_set ?_ GE415.out | refine below_set ?_ GE427.out) | exact HB.out)) hb)
              clear HO_6
              clear HO_9
              clear HO_428000
              clear HO435
              clear BK415
              clear BK427
              clear HB
              have HO_6 := n0_
              have HO_9 := n1_
              have HO_428000 := n2_
              have HO435 := n3_
              have BK415 := n4_
              have BK427 := n5_
              have HB := n6_
              clear n0_ n1_ n2_ n3_ n4_ n5_ n6_
              (try clear hb)
              (try clear hb2)
              (try clear hk)
              (try clear hi)
              refine hK.out _ _ ⟨(blk_cell BK427.out 0).trans rfl, (blk_cell BK415.out 0).trans rfl⟩ (fun hHeld => ?_)
              clear hK K
              refine norm_ (a' := ?_) ?_ ?_
              rotate_left
              · show Act.put _ (some 51) _ = _
                simp only [Act.put, List.setIfInBounds_toArray, List.set_cons_zero, List.set_cons_succ, i64_w, i32_w]
                rfl
              refine pure_ (i := 4) (N := some 52) (v := ?_) (a' := ?_) #[true, true, true, true, true] rfl rfl (by kernel_rfl) (fun _ _ _ h => h) (Or.inl ⟨by rfl, ?_⟩) ?_ ?_
              rotate_left
              · intro w'
                go_simp
                with_reducible rfl
              rotate_left
              · simp only [Act.put, List.setIfInBounds_toArray, List.set_cons_zero, List.set_cons_succ, i64_w, i32_w]
                rfl
              refine done_ (by kernel_rfl) ?_
              have hnb47 := NB427_415.out
              have hnc47 := NB415_427.out
              have hcz48_0 : w46.cell? ⟨gb427, 0, none⟩ = some (.slice Ao25 t424.length co25) := (blk_cell BK427.out 0).trans rfl
              have hfz48_0 := blk_frozen BK427.out 0
              go_upto_region 16 with (first | ((with_reducible refine gate_callee (f := 12) rfl ?_); refine goesL_ (some 55) rfl rfl Tryz.func12 (by kernel_rfl) rfl #[.agg #[.slice Ao25 t424.length co25], .int .i64 1] rfl (by (try simp only [List.map_toArray, List.map_cons, List.map_nil]); first | done | rfl | (simp only [List.length_drop, List.length_take]; rfl)) ?_; (with_reducible refine (laws_markTrie.calls kj13 (fun k_ => some k_ = (.slice Ao25 t424.length co25 : Value).ownBlock) (.slice Ao25 t424.length co25) t424 1 t437 t438 w _ ?side1 ?side2 A41.out).mono ?_); (case side1 => repeat (first | (with_reducible first | exact HB.out | apply below_alloc | apply pw_below_drewN | apply below_drew1 | refine below_set ?_ GE415.out | refine below_set ?_ GE427.out) | exact HB.out)); (case side2 => exact Kd.R_tight rfl HO_428000.out); rintro e w49 ⟨rfl, hy0, hb, hkp⟩; refine ⟨_, rfl, ?_⟩; have n0_ := Aside0.mk (Kd.R_mono (ok' := fun k_ => some k_ ≠ (v429 : Value).ownBlock) (Kd.R_keptB ((Kd.R_apart' HO_6.out (Kd.R_typed HO_428000.out) (by decide))) hkp (fun k_ hk_ hs_ => (hk_.2) hs_)) (fun k_ hk_ => hk_.1.1)); have n1_ := Aside0.mk (Kd.R_mono (ok' := fun k_ => some k_ ≠ (v421 : Value).ownBlock) (Kd.R_keptB ((Kd.R_apart' HO_9.out (Kd.R_typed HO_428000.out) (by decide))) hkp (fun k_ hk_ hs_ => (hk_.2) hs_)) (fun k_ hk_ => hk_.1.1)); have n2_ := Aside0.mk (Kd.R_reok rfl hy0 (fun k_ e_ => HO_428000.out.1 k_ e_)); have n3_ := Aside0.mk (blk_kept (by (with_reducible repeat (first | refine blk_drewN ?_ _ | refine blk_drew ?_ | refine blk_alloc ?_ _)); exact BK415.out) hkp (fun hs_ => (fun e_ => (Kd.R_ne HO_428000.out BK415.out (by decide)) e_) hs_)); have n4_ := Aside0.mk (blk_kept (by (with_reducible repeat (first | refine blk_drewN ?_ _ | refine blk_drew ?_ | refine blk_alloc ?_ _)); exact BK427.out) hkp (fun hs_ => (fun e_ => (Kd.R_ne HO_428000.out BK427.out (by decide)) e_) hs_)); have n5_ := Aside0.mk (Kd.R_mono (ok' := fun k_ => some k_ ≠ (.slice Ao25 t424.length co25 : Value).ownBlock) (Kd.R_keptB (HO435.out) hkp (fun k_ hk_ hs_ => (hk_.2) hs_)) (fun k_ hk_ => hk_.1.2)); have n6_ := Aside0.mk (hb); clear HO_6; clear HO_9; clear HO_428000; clear BK415; clear BK427; clear HO435; clear HB; have HO_6 := n0_; have HO_9 := n1_; have HO_428000 := n2_; have BK415 := n3_; have BK427 := n4_; have HO435 := n5_; have HB := n6_; clear n0_ n1_ n2_ n3_ n4_ n5_ n6_; (try clear hb); (try clear hkp); (try clear hy0)))
              (try simp only [Act.put, List.setIfInBounds_toArray, List.set_cons_zero, List.set_cons_succ])
              go_cut [68] (fun v68 wc => ∃ (kq : Nat) (x68_41 : Bool), v68 = .bool x68_41 ∧ Aside0 (laws_FnExactStandingWords.j1 kq a1 t420 t423 t428 x68_41 l0_0 = some true) ∧ Aside0 (kq ≤ kj13) ∧ Aside0 (Kd.R k52 52 wc w.heap.size (fun k_ => some k_ ≠ (v429 : Value).ownBlock) v421 t420) ∧ Aside0 (Kd.R k52 52 wc w.heap.size (fun k_ => some k_ ≠ (v421 : Value).ownBlock) v429 t428) ∧ Aside0 (Kd.R k70 70 wc w.heap.size (fun _ => True) (.slice Ao25 t424.length co25) t438) ∧ Aside0 (wc.heap[gb415]? = some (.cells #[(.slice A0_0 l0_0.length c0_0)] 24 (0, 0))) ∧ Aside0 (wc.heap[gb427]? = some (.cells #[(.slice Ao25 t424.length co25)] 31 (0, 0))) ∧ Aside0 (Below w.heap.size w wc))
              case first =>
                have H := HC42.out
                clear HC42
                by_cases c50 : t437 < 0
                · rw [if_pos c50] at H
                  exact absurd H (by cases kj13 <;> simp [laws_FnExactStandingWords.j1])
                · rw [if_neg c50] at H
                  have c50b0 : decide (t437 < 0) = false := decide_eq_false c50
                  clear c50
                  (first | rw [c50b0] | (simp only [i64_w, i32_w]; rw [c50b0]) | skip)
                  replace H := Option.bind_eq_some_iff.mp H
                  obtain ⟨t439, A510, H⟩ := H
                  replace H : (if t439 = true then (laws_FnExactStandingWords.j1 kj13 a1 t420 t423 t428 (t431 != t423) l0_0) else (laws_FnExactStandingWords.j1 kj13 a1 t420 t423 t428 true l0_0)) = some true := H
                  have A51 := Aside0.mk A510
                  clear A510
                  by_cases c52 : t439 = true
                  · subst c52
                    have H1 : (laws_FnExactStandingWords.j1 kj13 a1 t420 t423 t428 (t431 != t423) l0_0) = some true := by rw [if_pos rfl] at H; exact H
                    clear H
                    have H := H1
                    clear H1
                    have H' := Aside0.mk H
                    clear H
                    obtain ⟨Ao53, co53, eo53⟩ := Kd.R_slice HO_9.out
                    subst eo53
                    obtain ⟨Ao54, co54, eo54⟩ := Kd.R_slice HO_6.out
                    subst eo54
                    go_wp2_with (first | (go_at_call 10; (with_reducible refine (laws_eqIntA2S.calls _ _ t428 _ _ t420 true _ ?side1 ?side2 ?side3 ?side4 A51.out).mono ?_); (case side1 => repeat (first | exact (Kd.R_reads' HO_9.out).2.2 | (with_reducible refine Kd.C_alloc ?_ _) | (with_reducible refine Kd.C_drewN ?_ _) | (with_reducible refine Kd.C_drew ?_))); (case side2 => exact (Kd.R_reads' HO_9.out).2.1); (case side3 => repeat (first | exact (Kd.R_reads' HO_6.out).2.2 | (with_reducible refine Kd.C_alloc ?_ _) | (with_reducible refine Kd.C_drewN ?_ _) | (with_reducible refine Kd.C_drew ?_))); (case side4 => exact (Kd.R_reads' HO_6.out).2.1); rintro e w55 ⟨rfl, hb⟩; have n0_ := Aside0.mk (Kd.R_below (by (with_reducible repeat (first | apply Kd.R_alloc | apply Kd.R_drewN | apply Kd.R_drew)); exact HO_6.out) hb); have n1_ := Aside0.mk (Kd.R_below (by (with_reducible repeat (first | apply Kd.R_alloc | apply Kd.R_drewN | apply Kd.R_drew)); exact HO_9.out) hb); have n2_ := Aside0.mk (Kd.R_below (by (with_reducible repeat (first | apply Kd.R_alloc | apply Kd.R_drewN | apply Kd.R_drew)); exact HO_428000.out) hb); have n3_ := Aside0.mk (Kd.R_below (by (with_reducible repeat (first | apply Kd.R_alloc | apply Kd.R_drewN | apply Kd.R_drew)); exact HO435.out) hb); have n4_ := Aside0.mk (blk_below (g := gb415) (o := .cells #[.slice A0_0 l0_0.length c0_0] 24 (0, 0)) (by (with_reducible repeat (first | refine blk_drewN ?_ _ | refine blk_drew ?_ | refine blk_alloc ?_ _)); exact BK415.out) hb); have n5_ := Aside0.mk (blk_below (g := gb427) (o := .cells #[.slice Ao25 t424.length co25] 31 (0, 0)) (by (with_reducible repeat (first | refine blk_drewN ?_ _ | refine blk_drew ?_ | refine blk_alloc ?_ _)); exact BK427.out) hb); have n6_ := Aside0.mk (below_step (by repeat (first | (with_reducible first | exact HB.out | apply below_alloc | apply pw_below_drewN | apply below_drew1 | refine below_set ?_ GE415.out | refine below_set ?_ GE427.out) | exact HB.out)) hb); clear HO_6; clear HO_9; clear HO_428000; clear HO435; clear BK415; clear BK427; clear HB; have HO_6 := n0_; have HO_9 := n1_; have HO_428000 := n2_; have HO435 := n3_; have BK415 := n4_; have BK427 := n5_; have HB := n6_; clear n0_ n1_ n2_ n3_ n4_ n5_ n6_; (try clear hb); (try clear hb2); (try clear hk); (try clear hi)))
                    go_meet
                    case rel => exact ⟨_, ((t431 != t423)), (by first | rfl | (simp; done) | (simp [*]; done)), H', ⟨by have := HJ13.out; first | omega | exact Nat.le_refl _⟩, ⟨by (with_reducible repeat (first | apply Kd.R_alloc | apply Kd.R_drewN | apply Kd.R_drew)); exact HO_6.out⟩, ⟨by (with_reducible repeat (first | apply Kd.R_alloc | apply Kd.R_drewN | apply Kd.R_drew)); exact HO_9.out⟩, ⟨by (with_reducible repeat (first | apply Kd.R_alloc | apply Kd.R_drewN | apply Kd.R_drew)); exact Kd.R_mono HO_428000.out (fun _ hk => trivial)⟩, ⟨by (with_reducible repeat (first | refine blk_drewN ?_ _ | refine blk_drew ?_ | refine blk_alloc ?_ _)); exact BK415.out⟩, ⟨by (with_reducible repeat (first | refine blk_drewN ?_ _ | refine blk_drew ?_ | refine blk_alloc ?_ _)); exact BK427.out⟩, ⟨by repeat (first | (with_reducible first | exact HB.out | apply below_alloc | apply pw_below_drewN | apply below_drew1 | refine below_set ?_ GE415.out | refine below_set ?_ GE427.out) | exact HB.out)⟩⟩
                  · replace c52 := Bool.eq_false_iff.mpr c52
                    subst c52
                    have H1 : (laws_FnExactStandingWords.j1 kj13 a1 t420 t423 t428 true l0_0) = some true := by rw [if_neg (show ¬ (false = true) by decide)] at H; exact H
                    exact absurd H1 (by cases kj13 <;> simp [laws_FnExactStandingWords.j1])
              case rest =>
                clear HC42
                try clear c1
                try clear c2
                try clear p2
                try clear c3
                try clear c3b0
                try clear c3b1
                try clear c4
                try clear c5
                try clear c6
                try clear c6b0
                try clear c7
                try clear c8
                try clear c9
                try clear c10
                try clear c11
                try clear c12
                try clear c26
                try clear c30
                try clear c37
                try clear c40
                try clear c47
                try clear c50
                try clear c50b0
                try clear c52
                try clear hcz16_0
                try clear hcz18_0
                try clear hcz22_0
                try clear hcz27_0
                try clear hcz48_0
                try clear hcz8_0
                try clear hfz16_0
                try clear hfz18_0
                try clear hfz22_0
                try clear hfz27_0
                try clear hfz48_0
                try clear hfz8_0
                try clear p2
                obtain ⟨kq, x68_41, rfl, HA, HJ41, HO_6, HO_9, HO_428000, BK415, BK427, HB⟩ := hcut
                have hl428000_41 := (Kd.R_reads' HO_428000.out).1
                rw [hl428000_41] at HO_428000
                (try simp only [hl428000_41])
                (try simp only [hl428000_41] at BK415)
                (try simp only [hl428000_41] at BK427)
                (try simp only [hl428000_41] at HO_6)
                (try simp only [hl428000_41] at HO_9)
                cases kq with
                | zero => exact absurd HA.out (by simp [laws_FnExactStandingWords.j1])
                | succ kj41 =>
                  have H := HA.out
                  clear HA
                  simp only [laws_FnExactStandingWords.j1] at H
                  by_cases c59 : x68_41 = true
                  · subst c59
                    have H1 : (some false) = some true := by rw [if_pos rfl] at H; exact H
                    exact absurd H1 (by simp)
                  · replace c59 := Bool.eq_false_iff.mpr c59
                    subst c59
                    have H1 : ((laws_markIntA2S.f t428 1).bind fun bt440 => ((laws_heldIntA2S.f bt440.2 1).bind fun t442 => (if t442 < 0 then (some false) else (if t442 = bt440.1 then ((laws_toTrie.f kj41 l0_0).bind fun t443 => ((impl_StandingWords.f kj41 t443 a1).bind fun bt446 => ((laws_eqIntA2S.f bt446.1 t420).bind fun t450 => (if t450 = true then (laws_FnExactStandingWords.j2 kj41 bt440.2 bt440.1 (bt446.2 != t423)) else (laws_FnExactStandingWords.j2 kj41 bt440.2 bt440.1 true))))) else (some false))))) = some true := by rw [if_neg (show ¬ (false = true) by decide)] at H; exact H
                    clear H
                    have H := H1
                    clear H1
                    replace H := Option.bind_eq_some_iff.mp H
                    obtain ⟨⟨t440, t441⟩, A600, H⟩ := H
                    replace H : ((laws_heldIntA2S.f t441 1).bind fun t442 => (if t442 < 0 then (some false) else (if t442 = t440 then ((laws_toTrie.f kj41 l0_0).bind fun t443 => ((impl_StandingWords.f kj41 t443 a1).bind fun bt446 => ((laws_eqIntA2S.f bt446.1 t420).bind fun t450 => (if t450 = true then (laws_FnExactStandingWords.j2 kj41 t441 t440 (bt446.2 != t423)) else (laws_FnExactStandingWords.j2 kj41 t441 t440 true))))) else (some false)))) = some true := H
                    have A60 := Aside0.mk A600
                    clear A600
                    replace H := Option.bind_eq_some_iff.mp H
                    obtain ⟨t442, A610, H⟩ := H
                    replace H : (if t442 < 0 then (some false) else (if t442 = t440 then ((laws_toTrie.f kj41 l0_0).bind fun t443 => ((impl_StandingWords.f kj41 t443 a1).bind fun bt446 => ((laws_eqIntA2S.f bt446.1 t420).bind fun t450 => (if t450 = true then (laws_FnExactStandingWords.j2 kj41 t441 t440 (bt446.2 != t423)) else (laws_FnExactStandingWords.j2 kj41 t441 t440 true))))) else (some false))) = some true := H
                    have A61 := Aside0.mk A610
                    clear A610
                    by_cases c62 : t442 < 0
                    · rw [if_pos c62] at H
                      exact absurd H (by simp)
                    · rw [if_neg c62] at H
                      have c62b0 : decide (t442 < 0) = false := decide_eq_false c62
                      clear c62
                      by_cases c65 : t442 = t440
                      · rw [if_pos c65] at H
                        have c65b0 : (t442 == t440) = true := beq_iff_eq.mpr c65
                        have c65b1 : (t442 != t440) = false := bne_eq_false_iff_eq.mpr c65
                        clear c65
                        replace H := Option.bind_eq_some_iff.mp H
                        obtain ⟨t443, A660, H⟩ := H
                        replace H : ((impl_StandingWords.f kj41 t443 a1).bind fun bt446 => ((laws_eqIntA2S.f bt446.1 t420).bind fun t450 => (if t450 = true then (laws_FnExactStandingWords.j2 kj41 t441 t440 (bt446.2 != t423)) else (laws_FnExactStandingWords.j2 kj41 t441 t440 true)))) = some true := H
                        have A66 := Aside0.mk A660
                        clear A660
                        replace H := Option.bind_eq_some_iff.mp H
                        obtain ⟨⟨t446, t449⟩, A670, H⟩ := H
                        replace H : ((laws_eqIntA2S.f t446 t420).bind fun t450 => (if t450 = true then (laws_FnExactStandingWords.j2 kj41 t441 t440 (t449 != t423)) else (laws_FnExactStandingWords.j2 kj41 t441 t440 true))) = some true := H
                        have A67 := Aside0.mk A670
                        clear A670
                        have HC68 := Aside0.mk H
                        clear H
                        obtain ⟨Ao69, co69, eo69⟩ := Kd.R_slice HO_9.out
                        subst eo69
                        go_upto_region 27 with (first | ((with_reducible refine gate_callee (f := 13) rfl ?_); refine goesL_ (some 71) rfl rfl Tryz.func13 (by kernel_rfl) rfl #[.slice Ao69 t428.length co69, .int .i64 1] rfl (by (try simp only [List.map_toArray, List.map_cons, List.map_nil]); first | done | rfl | (simp only [List.length_drop, List.length_take]; rfl)) ?_; (with_reducible refine (laws_markIntA2S.calls (fun k_ => some k_ = (.slice Ao69 t428.length co69 : Value).ownBlock) (.slice Ao69 t428.length co69) t428 1 t440 t441 w _ ?side1 ?side2 A60.out).mono ?_); (case side1 => repeat (first | (with_reducible first | exact HB.out | apply below_alloc | apply pw_below_drewN | apply below_drew1 | refine below_set ?_ GE415.out | refine below_set ?_ GE427.out) | exact HB.out)); (case side2 => exact Kd.R_tight rfl HO_9.out); rintro e w70 ⟨rfl, hy0, hb, hkp⟩; refine ⟨_, rfl, ?_⟩; have n0_ := Aside0.mk (Kd.R_mono (ok' := fun k_ => some k_ ≠ (.slice Ao69 t428.length co69 : Value).ownBlock) (Kd.R_keptB (HO_6.out) hkp (fun k_ hk_ hs_ => (hk_) hs_)) (fun k_ hk_ => hk_.1)); have n1_ := Aside0.mk (Kd.R_reok rfl hy0 (fun k_ e_ => HO_9.out.1 k_ e_)); have n2_ := Aside0.mk (Kd.R_mono (ok' := fun k_ => True) (Kd.R_keptB ((Kd.R_apart' HO_428000.out (Kd.R_typed HO_9.out) (by decide))) hkp (fun k_ hk_ hs_ => (hk_.2) hs_)) (fun k_ hk_ => trivial)); have n3_ := Aside0.mk (blk_kept (by (with_reducible repeat (first | refine blk_drewN ?_ _ | refine blk_drew ?_ | refine blk_alloc ?_ _)); exact BK415.out) hkp (fun hs_ => (fun e_ => (Kd.R_ne HO_9.out BK415.out (by decide)) e_) hs_)); have n4_ := Aside0.mk (blk_kept (by (with_reducible repeat (first | refine blk_drewN ?_ _ | refine blk_drew ?_ | refine blk_alloc ?_ _)); exact BK427.out) hkp (fun hs_ => (fun e_ => (Kd.R_ne HO_9.out BK427.out (by decide)) e_) hs_)); have n5_ := Aside0.mk (hb); clear HO_6; clear HO_9; clear HO_428000; clear BK415; clear BK427; clear HB; have HO_6 := n0_; have HO_9 := n1_; have HO_428000 := n2_; have BK415 := n3_; have BK427 := n4_; have HB := n5_; clear n0_ n1_ n2_ n3_ n4_ n5_; (try clear hb); (try clear hkp); (try clear hy0)) | ((with_reducible refine gate_callee (f := 14) rfl ?_); refine goesL_ (some 74) rfl rfl Tryz.func14 (by kernel_rfl) rfl #[.slice Ao69 t441.length co69, .int .i64 1] rfl (by (try simp only [List.map_toArray, List.map_cons, List.map_nil]); first | done | (rw [show t441.length = t428.length from (Kd.R_reads' HO_9.out).1.symm] <;> rfl) | rfl | (simp only [List.length_drop, List.length_take]; rfl)) ?_; (with_reducible refine (laws_heldIntA2S.calls _ _ t441 1 t442 _ ?side1 ?side2 A61.out).mono ?_); (case side1 => repeat (first | exact (Kd.R_reads' HO_9.out).2.2 | (with_reducible refine Kd.C_alloc ?_ _) | (with_reducible refine Kd.C_drewN ?_ _) | (with_reducible refine Kd.C_drew ?_))); (case side2 => rw [show t441.length = t428.length from (Kd.R_reads' HO_9.out).1.symm]; exact (Kd.R_reads' HO_9.out).2.1); rintro e w' ⟨rfl, ⟨nd, rfl⟩⟩; refine ⟨_, rfl, ?_⟩; have hnb71 := NB415_427.out; have hnc71 := NB427_415.out; have hcz72_0 : w70.cell? ⟨gb415, 0, none⟩ = some (.slice A0_0 l0_0.length c0_0) := (blk_cell BK415.out 0).trans rfl; have hfz72_0 := blk_frozen BK415.out 0) | ((with_reducible refine gate_callee (f := 8) rfl ?_); refine goesL_ (some 82) rfl rfl Tryz.func8 (by kernel_rfl) rfl #[.agg #[.slice A0_0 l0_0.length c0_0]] rfl (by (try simp only [List.map_toArray, List.map_cons, List.map_nil]); first | done | rfl | (simp only [List.length_drop, List.length_take]; rfl)) ?_; (with_reducible refine (laws_toTrie.calls kj41 _ _ l0_0 t443 _ ?side1 ?side2 A66.out).mono ?_); (case side1 => repeat (first | exact (Kd.C_below HR0_0.out (by repeat (first | (with_reducible first | exact HB.out | apply below_alloc | apply pw_below_drewN | apply below_drew1 | refine below_set ?_ GE415.out | refine below_set ?_ GE427.out) | exact HB.out))) | (with_reducible refine Kd.C_alloc ?_ _) | (with_reducible refine Kd.C_drewN ?_ _) | (with_reducible refine Kd.C_drew ?_))); (case side2 => exact HC0_0.out); rintro e w73 ⟨v444, rfl, ho0, hb⟩; refine ⟨_, rfl, ?_⟩; have n0_ := Aside0.mk (Kd.R_below (by (with_reducible repeat (first | apply Kd.R_alloc | apply Kd.R_drewN | apply Kd.R_drew)); exact HO_6.out) hb); have n1_ := Aside0.mk (Kd.R_below (by (with_reducible repeat (first | apply Kd.R_alloc | apply Kd.R_drewN | apply Kd.R_drew)); exact HO_9.out) hb); have n2_ := Aside0.mk (Kd.R_elder' (by (with_reducible repeat (first | apply Kd.R_alloc | apply Kd.R_drewN | apply Kd.R_drew)); exact HO_428000.out) (Kd.R_base ho0) hb); have n3_ := Aside0.mk (Kd.R_lower (Kd.R_new' ho0 (Kd.R_lt (by (with_reducible repeat (first | apply Kd.R_alloc | apply Kd.R_drewN | apply Kd.R_drew)); exact HO_428000.out))) (below_size (by repeat (first | (with_reducible first | exact HB.out | apply below_alloc | apply pw_below_drewN | apply below_drew1 | refine below_set ?_ GE415.out | refine below_set ?_ GE427.out) | exact HB.out)))); have n4_ := Aside0.mk (blk_below (g := gb415) (o := .cells #[.slice A0_0 l0_0.length c0_0] 24 (0, 0)) (by (with_reducible repeat (first | refine blk_drewN ?_ _ | refine blk_drew ?_ | refine blk_alloc ?_ _)); exact BK415.out) hb); have n5_ := Aside0.mk (blk_below (g := gb427) (o := .cells #[.slice Ao25 t438.length co25] 31 (0, 0)) (by (with_reducible repeat (first | refine blk_drewN ?_ _ | refine blk_drew ?_ | refine blk_alloc ?_ _)); exact BK427.out) hb); have n6_ := Aside0.mk (below_step (by repeat (first | (with_reducible first | exact HB.out | apply below_alloc | apply pw_below_drewN | apply below_drew1 | refine below_set ?_ GE415.out | refine below_set ?_ GE427.out) | exact HB.out)) hb); clear HO_6; clear HO_9; clear HO_428000; clear BK415; clear BK427; clear HB; have HO_6 := n0_; have HO_9 := n1_; have HO_428000 := n2_; have HO445 := n3_; have BK415 := n4_; have BK427 := n5_; have HB := n6_; clear n0_ n1_ n2_ n3_ n4_ n5_ n6_; (try clear hb); (try clear hb2); (try clear hk); (try clear hi); (try clear ho0); obtain ⟨Ao74, co74, eo74⟩ := Kd.R_slice HO445.out; subst eo74) | ((with_reducible refine gate_callee (f := 9) rfl ?_); refine goesL_ (some 84) rfl rfl Tryz.func9 (by kernel_rfl) rfl #[.agg #[.slice Ao74 t443.length co74], .string a1] rfl (by (try simp only [List.map_toArray, List.map_cons, List.map_nil]); first | done | rfl | (simp only [List.length_drop, List.length_take]; rfl)) ?_; (with_reducible refine (impl_StandingWords.calls kj41 _ _ t443 a1 t446 t449 _ ?side1 ?side2 A67.out).mono ?_); (case side1 => repeat (first | exact (Kd.R_reads' HO445.out).2.2 | (with_reducible refine Kd.C_alloc ?_ _) | (with_reducible refine Kd.C_drewN ?_ _) | (with_reducible refine Kd.C_drew ?_))); (case side2 => exact (Kd.R_reads' HO445.out).2.1); rintro e w75 ⟨v447, rfl, ho0, hb⟩; refine ⟨_, rfl, ?_⟩; have n0_ := Aside0.mk (Kd.R_elder' (by (with_reducible repeat (first | apply Kd.R_alloc | apply Kd.R_drewN | apply Kd.R_drew)); exact HO_6.out) (Kd.R_base ho0) hb); have n1_ := Aside0.mk (Kd.R_elder' (by (with_reducible repeat (first | apply Kd.R_alloc | apply Kd.R_drewN | apply Kd.R_drew)); exact HO_9.out) (Kd.R_base ho0) hb); have n2_ := Aside0.mk (Kd.R_below (by (with_reducible repeat (first | apply Kd.R_alloc | apply Kd.R_drewN | apply Kd.R_drew)); exact HO_428000.out) hb); have n3_ := Aside0.mk (Kd.R_below (by (with_reducible repeat (first | apply Kd.R_alloc | apply Kd.R_drewN | apply Kd.R_drew)); exact HO445.out) hb); have n4_ := Aside0.mk (Kd.R_lower (Kd.R_new' (Kd.R_new' ho0 (Kd.R_lt (by (with_reducible repeat (first | apply Kd.R_alloc | apply Kd.R_drewN | apply Kd.R_drew)); exact HO_6.out))) (Kd.R_lt (by (with_reducible repeat (first | apply Kd.R_alloc | apply Kd.R_drewN | apply Kd.R_drew)); exact HO_9.out))) (below_size (by repeat (first | (with_reducible first | exact HB.out | apply below_alloc | apply pw_below_drewN | apply below_drew1 | refine below_set ?_ GE415.out | refine below_set ?_ GE427.out) | exact HB.out)))); have n5_ := Aside0.mk (blk_below (g := gb415) (o := .cells #[.slice A0_0 l0_0.length c0_0] 24 (0, 0)) (by (with_reducible repeat (first | refine blk_drewN ?_ _ | refine blk_drew ?_ | refine blk_alloc ?_ _)); exact BK415.out) hb); have n6_ := Aside0.mk (blk_below (g := gb427) (o := .cells #[.slice Ao25 t438.length co25] 31 (0, 0)) (by (with_reducible repeat (first | refine blk_drewN ?_ _ | refine blk_drew ?_ | refine blk_alloc ?_ _)); exact BK427.out) hb); have n7_ := Aside0.mk (below_step (by repeat (first | (with_reducible first | exact HB.out | apply below_alloc | apply pw_below_drewN | apply below_drew1 | refine below_set ?_ GE415.out | refine below_set ?_ GE427.out) | exact HB.out)) hb); clear HO_6; clear HO_9; clear HO_428000; clear HO445; clear BK415; clear BK427; clear HB; have HO_6 := n0_; have HO_9 := n1_; have HO_428000 := n2_; have HO445 := n3_; have HO448 := n4_; have BK415 := n5_; have BK427 := n6_; have HB := n7_; clear n0_ n1_ n2_ n3_ n4_ n5_ n6_ n7_; (try clear hb); (try clear hb2); (try clear hk); (try clear hi); (try clear ho0)))
                        (try simp only [Act.put, List.setIfInBounds_toArray, List.set_cons_zero, List.set_cons_succ])
                        go_cut [95] (fun v95 wc => ∃ (kq : Nat) (x95_67 : Bool), v95 = .bool x95_67 ∧ Aside0 (laws_FnExactStandingWords.j2 kq t441 t440 x95_67 = some true) ∧ Aside0 (kq ≤ kj41) ∧ Aside0 (Kd.R k52 52 wc w.heap.size (fun _ => True) (.slice Ao69 t428.length co69) t441) ∧ Aside0 (Kd.R k70 70 wc w.heap.size (fun _ => True) (.slice Ao25 t438.length co25) t438) ∧ Aside0 (wc.heap[gb415]? = some (.cells #[(.slice A0_0 l0_0.length c0_0)] 24 (0, 0))) ∧ Aside0 (wc.heap[gb427]? = some (.cells #[(.slice Ao25 t438.length co25)] 31 (0, 0))) ∧ Aside0 (Below w.heap.size w wc))
                        case first =>
                          have H := HC68.out
                          clear HC68
                          replace H := Option.bind_eq_some_iff.mp H
                          obtain ⟨t450, A760, H⟩ := H
                          replace H : (if t450 = true then (laws_FnExactStandingWords.j2 kj41 t441 t440 (t449 != t423)) else (laws_FnExactStandingWords.j2 kj41 t441 t440 true)) = some true := H
                          have A76 := Aside0.mk A760
                          clear A760
                          by_cases c77 : t450 = true
                          · subst c77
                            have H1 : (laws_FnExactStandingWords.j2 kj41 t441 t440 (t449 != t423)) = some true := by rw [if_pos rfl] at H; exact H
                            clear H
                            have H := H1
                            clear H1
                            have H' := Aside0.mk H
                            clear H
                            obtain ⟨Ao78, co78, eo78⟩ := Kd.R_slice HO448.out
                            subst eo78
                            obtain ⟨Ao79, co79, eo79⟩ := Kd.R_slice HO_6.out
                            subst eo79
                            go_wp2_with (first | ((with_reducible refine gate_callee (f := 10) rfl ?_); refine goesL_ (some 89) rfl rfl Tryz.func10 (by kernel_rfl) rfl #[.slice Ao78 t446.length co78, .slice Ao79 t420.length co79] rfl (by (try simp only [List.map_toArray, List.map_cons, List.map_nil]); first | done | rfl | (simp only [List.length_drop, List.length_take]; rfl)) ?_; (with_reducible refine (laws_eqIntA2S.calls _ _ t446 _ _ t420 true _ ?side1 ?side2 ?side3 ?side4 A76.out).mono ?_); (case side1 => repeat (first | exact (Kd.R_reads' HO448.out).2.2 | (with_reducible refine Kd.C_alloc ?_ _) | (with_reducible refine Kd.C_drewN ?_ _) | (with_reducible refine Kd.C_drew ?_))); (case side2 => exact (Kd.R_reads' HO448.out).2.1); (case side3 => repeat (first | exact (Kd.R_reads' HO_6.out).2.2 | (with_reducible refine Kd.C_alloc ?_ _) | (with_reducible refine Kd.C_drewN ?_ _) | (with_reducible refine Kd.C_drew ?_))); (case side4 => exact (Kd.R_reads' HO_6.out).2.1); rintro e w80 ⟨rfl, hb⟩; refine ⟨_, rfl, ?_⟩; have n0_ := Aside0.mk (Kd.R_below (by (with_reducible repeat (first | apply Kd.R_alloc | apply Kd.R_drewN | apply Kd.R_drew)); exact HO_6.out) hb); have n1_ := Aside0.mk (Kd.R_below (by (with_reducible repeat (first | apply Kd.R_alloc | apply Kd.R_drewN | apply Kd.R_drew)); exact HO_9.out) hb); have n2_ := Aside0.mk (Kd.R_below (by (with_reducible repeat (first | apply Kd.R_alloc | apply Kd.R_drewN | apply Kd.R_drew)); exact HO_428000.out) hb); have n3_ := Aside0.mk (Kd.R_below (by (with_reducible repeat (first | apply Kd.R_alloc | apply Kd.R_drewN | apply Kd.R_drew)); exact HO445.out) hb); have n4_ := Aside0.mk (Kd.R_below (by (with_reducible repeat (first | apply Kd.R_alloc | apply Kd.R_drewN | apply Kd.R_drew)); exact HO448.out) hb); have n5_ := Aside0.mk (blk_below (g := gb415) (o := .cells #[.slice A0_0 l0_0.length c0_0] 24 (0, 0)) (by (with_reducible repeat (first | refine blk_drewN ?_ _ | refine blk_drew ?_ | refine blk_alloc ?_ _)); exact BK415.out) hb); have n6_ := Aside0.mk (blk_below (g := gb427) (o := .cells #[.slice Ao25 t438.length co25] 31 (0, 0)) (by (with_reducible repeat (first | refine blk_drewN ?_ _ | refine blk_drew ?_ | refine blk_alloc ?_ _)); exact BK427.out) hb); have n7_ := Aside0.mk (below_step (by repeat (first | (with_reducible first | exact HB.out | apply below_alloc | apply pw_below_drewN | apply below_drew1 | refine below_set ?_ GE415.out | refine below_set ?_ GE427.out) | exact HB.out)) hb); clear HO_6; clear HO_9; clear HO_428000; clear HO445; clear HO448; clear BK415; clear BK427; clear HB; have HO_6 := n0_; have HO_9 := n1_; have HO_428000 := n2_; have HO445 := n3_; have HO448 := n4_; have BK415 := n5_; have BK427 := n6_; have HB := n7_; clear n0_ n1_ n2_ n3_ n4_ n5_ n6_ n7_; (try clear hb); (try clear hb2); (try clear hk); (try clear hi)))
                            go_meet
                            case rel => exact ⟨_, ((t449 != t423)), (by first | rfl | (simp; done) | (simp [*]; done)), H', ⟨by have := HJ13.out; have := HJ41.out; first | omega | exact Nat.le_refl _⟩, ⟨by (try simp only [hl428000_41]); (with_reducible repeat (first | apply Kd.R_alloc | apply Kd.R_drewN | apply Kd.R_drew)); exact Kd.R_mono HO_9.out (fun _ hk => trivial)⟩, ⟨by (try simp only [hl428000_41]); (with_reducible repeat (first | apply Kd.R_alloc | apply Kd.R_drewN | apply Kd.R_drew)); exact Kd.R_mono HO_428000.out (fun _ hk => trivial)⟩, ⟨by (try simp only [hl428000_41]); (with_reducible repeat (first | refine blk_drewN ?_ _ | refine blk_drew ?_ | refine blk_alloc ?_ _)); exact BK415.out⟩, ⟨by (try simp only [hl428000_41]); (with_reducible repeat (first | refine blk_drewN ?_ _ | refine blk_drew ?_ | refine blk_alloc ?_ _)); exact BK427.out⟩, ⟨by repeat (first | (with_reducible first | exact HB.out | apply below_alloc | apply pw_below_drewN | apply below_drew1 | refine below_set ?_ GE415.out | refine below_set ?_ GE427.out) | exact HB.out)⟩⟩
                          · replace c77 := Bool.eq_false_iff.mpr c77
                            subst c77
                            have H1 : (laws_FnExactStandingWords.j2 kj41 t441 t440 true) = some true := by rw [if_neg (show ¬ (false = true) by decide)] at H; exact H
                            exact absurd H1 (by cases kj41 <;> simp [laws_FnExactStandingWords.j2])
                        case rest =>
                          clear HC68
                          try clear c1
                          try clear c2
                          try clear p2
                          try clear c3
                          try clear c3b0
                          try clear c3b1
                          try clear c4
                          try clear c5
                          try clear c6
                          try clear c6b0
                          try clear c7
                          try clear c8
                          try clear c9
                          try clear c10
                          try clear c11
                          try clear c12
                          try clear c13
                          try clear c14
                          try clear c26
                          try clear c30
                          try clear c37
                          try clear c40
                          try clear c47
                          try clear c50
                          try clear c50b0
                          try clear c52
                          try clear c59
                          try clear c62
                          try clear c62b0
                          try clear c65
                          try clear c65b0
                          try clear c65b1
                          try clear c71
                          try clear c77
                          try clear hcz16_0
                          try clear hcz18_0
                          try clear hcz22_0
                          try clear hcz27_0
                          try clear hcz48_0
                          try clear hcz72_0
                          try clear hcz8_0
                          try clear hfz16_0
                          try clear hfz18_0
                          try clear hfz22_0
                          try clear hfz27_0
                          try clear hfz48_0
                          try clear hfz72_0
                          try clear hfz8_0
                          try clear p2
                          obtain ⟨kq, x95_67, rfl, HA, HJ67, HO_9, HO_428000, BK415, BK427, HB⟩ := hcut
                          have hl9_67 := (Kd.R_reads' HO_9.out).1
                          rw [hl9_67] at HO_9
                          (try simp only [hl9_67])
                          (try simp only [hl9_67] at BK415)
                          (try simp only [hl9_67] at BK427)
                          (try simp only [hl9_67] at HO_428000)
                          cases kq with
                          | zero => exact absurd HA.out (by simp [laws_FnExactStandingWords.j2])
                          | succ kj67 =>
                            have H := HA.out
                            clear HA
                            simp only [laws_FnExactStandingWords.j2] at H
                            by_cases c84 : x95_67 = true
                            · subst c84
                              have H1 : (some false) = some true := by rw [if_pos rfl] at H; exact H
                              exact absurd H1 (by simp)
                            · replace c84 := Bool.eq_false_iff.mpr c84
                              subst c84
                              have H1 : ((laws_heldIntA2S.f t441 1).bind fun t451 => (if t451 < 0 then (some false) else (if t451 = t440 then (some true) else (some false)))) = some true := by rw [if_neg (show ¬ (false = true) by decide)] at H; exact H
                              clear H
                              have H := H1
                              clear H1
                              replace H := Option.bind_eq_some_iff.mp H
                              obtain ⟨t451, A850, H⟩ := H
                              replace H : (if t451 < 0 then (some false) else (if t451 = t440 then (some true) else (some false))) = some true := H
                              have A85 := Aside0.mk A850
                              clear A850
                              by_cases c86 : t451 < 0
                              · rw [if_pos c86] at H
                                exact absurd H (by simp)
                              · rw [if_neg c86] at H
                                have c86b0 : decide (t451 < 0) = false := decide_eq_false c86
                                clear c86
                                by_cases c87 : t451 = t440
                                · rw [if_pos c87] at H
                                  have c87b0 : (t451 == t440) = true := beq_iff_eq.mpr c87
                                  have c87b1 : (t451 != t440) = false := bne_eq_false_iff_eq.mpr c87
                                  clear c87
                                  (first | (obtain rfl := Option.some.inj H) | (have hH_ := Option.some.inj H; try simp only [hH_]))
                                  go_wp2_with (first | ((with_reducible refine gate_callee (f := 14) rfl ?_); refine goesL_ (some 98) rfl rfl Tryz.func14 (by kernel_rfl) rfl #[.slice Ao69 t441.length co69, .int .i64 1] rfl (by (try simp only [List.map_toArray, List.map_cons, List.map_nil]); first | done | rfl | (simp only [List.length_drop, List.length_take]; rfl)) ?_; (with_reducible refine (laws_heldIntA2S.calls _ _ t441 1 t451 _ ?side1 ?side2 A85.out).mono ?_); (case side1 => repeat (first | exact (Kd.R_reads' HO_9.out).2.2 | (with_reducible refine Kd.C_alloc ?_ _) | (with_reducible refine Kd.C_drewN ?_ _) | (with_reducible refine Kd.C_drew ?_))); (case side2 => exact (Kd.R_reads' HO_9.out).2.1); rintro e w' ⟨rfl, ⟨nd, rfl⟩⟩; refine ⟨_, rfl, ?_⟩))
                                  go_ret
                                  exact ⟨by first | rfl | (simp [errW_none, errW_some] <;> rfl) | (simp [*, errW_none, errW_some] <;> rfl), by repeat (first | (with_reducible first | exact HB.out | apply below_alloc | apply pw_below_drewN | apply below_drew1 | refine below_set ?_ GE415.out | refine below_set ?_ GE427.out) | exact HB.out)⟩
                                · rw [if_neg c87] at H
                                  exact absurd H (by simp)
                      · rw [if_neg c65] at H
                        exact absurd H (by simp)
            · replace c40 := Bool.eq_false_iff.mpr c40
              subst c40
              have H1 : (some false) = some true := by rw [if_neg (show ¬ (false = true) by decide)] at H; exact H
              exact absurd H1 (by simp)
end Go.Proofs.YtadpmgdmiaoniaaGreatDoor.Q
namespace Go.Proofs.YtadpmgdmiaoniaaGreatDoor.Q
open Go.RowKit Go.Proofs.YtadpmgdmiaoniaaGreatDoorW.PrintWords Go.Proofs.YtadpmgdmiaoniaaGreatDoorW.PrintLast
def lwD (b : ByteArray) : List UInt8 := b.data.toList
theorem lwD_length (b : ByteArray) : (lwD b).length = b.size := by unfold lwD; rw [Array.length_toList]; rfl
def lettersD (w : ByteArray) : Prop := ∀ x ∈ lwD w, 97 ≤ x.toNat ∧ x.toNat ≤ 122
def okWordD (w : ByteArray) : Prop := w.size ≤ 12 ∧ lettersD w
theorem bt_natD (a : ByteArray) (i : Nat) (h : i < (lwD a).length) : bt a (i : Int) = (((lwD a)[i]'h).toNat : Int) := by
  have h2 : i < a.size := by rw [← lwD_length]; exact h
  have : ((i : Int)).toNat < a.size := by simpa using h2
  rw [← bt_at a (i : Int) this]
  rfl
instance (w : ByteArray) : Decidable (lettersD w) := inferInstanceAs (Decidable (∀ x ∈ lwD w, 97 ≤ x.toNat ∧ x.toNat ≤ 122))
instance (w : ByteArray) : Decidable (okWordD w) := inferInstanceAs (Decidable (w.size ≤ 12 ∧ lettersD w))
theorem lettersB_D (w : ByteArray) : lettersB w = decide (lettersD w) := by
  rw [Bool.eq_iff_iff, decide_eq_true_eq]
  unfold lettersB lettersD lwD
  rw [List.all_eq_true]
  exact forall_congr' fun x => imp_congr Iff.rfl decide_eq_true_iff
end Go.Proofs.YtadpmgdmiaoniaaGreatDoor.Q
namespace Go.Proofs.YtadpmgdmiaoniaaGreatDoor.Q
open Go.RowKit Go.Proofs.YtadpmgdmiaoniaaGreatDoorW.PrintWords Go.Proofs.YtadpmgdmiaoniaaGreatDoorW.PrintLast
theorem srtI_perm (zs : List Int) : (srtI zs).Perm zs := List.mergeSort_perm zs _
theorem st_size {s x : ByteArray} (h : stP s x = true) : x.size ≤ s.size ∧ (s.extract 0 x.size).toList = x.toList ∧ x.size ≠ 0 := by
  simp only [stP, begW, Bool.and_eq_true, decide_eq_true_eq] at h
  exact ⟨h.2.1, h.2.2, h.1⟩
theorem rdI_nat (l : List Int) {i : Nat} (h : i < l.length) : rd l (i : Int) = l[i] := by simp [rd, h]
theorem rowAt_length {ws : List ByteArray} (hv : VW ws) (p : ByteArray) (a : Nat) : (rowAt ws p a).length ≤ 40 := by
  unfold rowAt
  rw [srtI_length]
  exact Nat.le_trans (rowS_length _ _) hv.len
theorem rowAt_mem {ws : List ByteArray} {p : ByteArray} {a : Nat} {n : Int} (h : n ∈ rowAt ws p a) : 1 ≤ n ∧ n + a ≤ p.size := by
  obtain ⟨x, hx, rfl⟩ := List.mem_map.1 ((srtI_perm _).mem_iff.1 h)
  obtain ⟨h1, h2, h3⟩ := st_size (List.mem_filter.1 hx).2
  rw [ByteArray.size_extract] at h1
  omega
theorem rowAt_end (ws : List ByteArray) (p : ByteArray) (a : Nat) (h : p.size ≤ a) : rowAt ws p a = [] := by
  cases hr : rowAt ws p a with
  | nil => rfl
  | cons n t =>
    have := rowAt_mem (ws := ws) (p := p) (a := a) (n := n) (by rw [hr]; exact List.mem_cons_self)
    omega
theorem standW_length (ws : List ByteArray) (p : ByteArray) : (standW ws p).length = p.size + 1 := by simp [standW]
theorem stand_at (ws : List ByteArray) (p : ByteArray) (a : Nat) (h : a ≤ p.size) : rd_L10 (standW ws p) (a : Int) = rowAt ws p a := by
  simp [rd_L10, standW, Nat.lt_succ_of_le h]
end Go.Proofs.YtadpmgdmiaoniaaGreatDoor.Q
namespace Go.Proofs.YtadpmgdmiaoniaaGreatDoor.Q
open Go.RowKit Go.Proofs.YtadpmgdmiaoniaaGreatDoorW.PrintWords Go.Proofs.YtadpmgdmiaoniaaGreatDoorW.PrintLast
def okPass (a : ByteArray) : Prop := a.size ≤ 60 ∧ lettersD a
instance (w : ByteArray) : Decidable (okPass w) := inferInstanceAs (Decidable (w.size ≤ 60 ∧ lettersD w))
theorem text_l0 (a : ByteArray) : ∀ (n i : Nat), i + n = min a.size 61 → (∀ x ∈ (lwD a).take i, 97 ≤ x.toNat ∧ x.toNat ≤ 122) → Ev (fun k => spec_l3Text.l0 k a (i : Int)) (decide (okPass a)) := by
  intro n
  induction n with
  | zero =>
    intro i h hx
    refine Ev.succ ?_
    simp only [spec_l3Text.l0]
    have e : decide ((a.size : Int) ≤ 60) = decide (okPass a) := by
      refine decide_eq_decide.2 ⟨fun hs => ⟨by omega, ?_⟩, fun h => by have := h.1; omega⟩
      rw [List.take_of_length_le (by rw [lwD_length]; omega)] at hx
      exact hx
    by_cases hs : a.size ≤ 60
    · refine Ev.neg (by omega) (Ev.succ ?_)
      simp only [spec_l3Text.j1]
      refine Ev.neg (by decide) ?_
      rw [e]
      exact Ev.pure _
    · have e1 : i = 61 := by omega
      by_cases h13 : 61 < a.size
      · refine Ev.pos (by omega) (Ev.succ ?_)
        simp only [spec_l3Text.j1]
        refine Ev.neg (by simp; omega) ?_
        rw [e]
        exact Ev.pure _
      · refine Ev.neg (by omega) (Ev.succ ?_)
        simp only [spec_l3Text.j1]
        refine Ev.neg (by decide) ?_
        rw [e]
        exact Ev.pure _
  | succ n ih =>
    intro i h hx
    refine Ev.succ ?_
    simp only [spec_l3Text.l0]
    have hi : i < (lwD a).length := by rw [lwD_length]; omega
    refine Ev.pos (by omega) (Ev.succ ?_)
    simp only [spec_l3Text.j1, bt_natD a i hi]
    refine Ev.pos (by simp; omega) (Ev.pos (by omega) (Ev.pos (by omega) ?_))
    have hnot : ¬ (97 ≤ ((lwD a)[i]).toNat ∧ ((lwD a)[i]).toNat ≤ 122) → decide (okPass a) = false := fun hq => decide_eq_false (fun ho => hq (ho.2 _ (List.getElem_mem hi)))
    by_cases h1 : 97 ≤ ((lwD a)[i]).toNat
    · refine Ev.neg (by omega) ?_
      by_cases h2 : ((lwD a)[i]).toNat ≤ 122
      · refine Ev.neg (by omega) ?_
        rw [wnext i (by omega)]
        refine ih (i + 1) (by omega) (fun x hm => ?_)
        rw [List.take_succ_eq_append_getElem hi] at hm
        rcases List.mem_append.1 hm with hm | hm
        · exact hx x hm
        · rw [List.mem_singleton.1 hm]; exact ⟨h1, h2⟩
      · rw [hnot (by omega)]
        exact Ev.pos (by omega) (Ev.pure _)
    · rw [hnot (by omega)]
      exact Ev.pos (by omega) (Ev.pure _)
theorem text_ev (a : ByteArray) : Ev (fun k => spec_l3Text.f k a) (decide (okPass a)) := by
  unfold spec_l3Text.f
  exact text_l0 a (min a.size 61) 0 (by omega) (fun x hx => by cases hx)
theorem pass_ev (l : List IN) (a : ByteArray) : Ev (fun k => impl_arePassage.f k l a) (isTrieW l && decide (okPass a)) := by
  unfold impl_arePassage.f impl_areLetters.f
  by_cases h60 : a.size ≤ 60
  · refine Ev.pos (by omega) (Ev.bindc (by rw [if_pos (by omega), lettersB_D]) ?_)
    by_cases hl : lettersD a
    · rw [decide_eq_true (show okPass a from ⟨h60, hl⟩), Bool.and_true]
      exact Ev.pos (decide_eq_true hl) (Ev.bind (implT l rfl) (Ev.pure _))
    · rw [decide_eq_false (fun h : okPass a => hl h.2), Bool.and_false]
      exact Ev.neg (by simpa using hl) (Ev.pure _)
  · rw [decide_eq_false (fun h : okPass a => h60 h.1), Bool.and_false]
    exact Ev.neg (by omega) (Ev.pure _)
theorem good_ev (l : List IN) (a : ByteArray) : Ev (fun k => spec_l3Good.f k l a) (isTrieW l && decide (okPass a)) := by
  unfold spec_l3Good.f
  refine Ev.bind (specT l rfl) ?_
  cases h : isTrieW l with
  | false => exact Ev.neg (by decide) (Ev.pure _)
  | true => exact Ev.pos rfl (Ev.bind (text_ev a) (Ev.pure _))
theorem pass_cases (l : List IN) (a : ByteArray) : (Ev (fun k => impl_arePassage.f k l a) false ∧ Ev (fun k => spec_l3Good.f k l a) false) ∨
    ∃ ws, VW ws ∧ l = trieW ws ∧ a.size ≤ 60 ∧ Ev (fun k => impl_arePassage.f k l a) true ∧ Ev (fun k => spec_l3Good.f k l a) true ∧ impl_Trie_standing.f l a = some (standW ws a) := by
  have h1 := pass_ev l a
  have h2 := good_ev l a
  rcases trie_cases l with hf | ⟨ws, hv, rfl, ht⟩
  · rw [hf] at h1 h2; exact .inl ⟨h1, h2⟩
  · by_cases ho : okPass a
    · rw [ht, decide_eq_true ho] at h1 h2
      exact .inr ⟨ws, hv, rfl, ho.1, h1, h2, by unfold impl_Trie_standing.f; rw [ht, decide_eq_true ho.1, wordsV_trie hv]; rfl⟩
    · rw [ht, decide_eq_false ho] at h1 h2; exact .inl ⟨h1, h2⟩
def putI (l : List Int) (n : Int) : List Int := l.takeWhile (fun x => decide (x < n)) ++ n :: l.dropWhile (fun x => decide (x < n))
theorem putI_l0 (l : List Int) (n : Int) (hl : l.length ≤ 1000000) (hn : n ∉ l) : ∀ (m i : Nat), i + m = (l.takeWhile fun x => decide (x < n)).length → Ev (fun k => spec_l1Put.l0 k l n (i : Int)) (putI l n) := by
  have hle : (l.takeWhile fun x => decide (x < n)).length ≤ l.length := (List.takeWhile_prefix _).length_le
  have htd := List.takeWhile_append_dropWhile (p := fun x => decide (x < n)) (l := l)
  intro m
  induction m with
  | zero =>
    intro i h
    have ht : l.take i = l.takeWhile fun x => decide (x < n) := by
      conv => lhs; rw [← htd]
      rw [List.take_append_of_le_length (by omega), List.take_of_length_le (by omega)]
    have hd : l.drop i = l.dropWhile fun x => decide (x < n) := by
      conv => lhs; rw [← htd]
      rw [List.drop_append_of_le_length (by omega), List.drop_of_length_le (by omega), List.nil_append]
    have hput : putI l n = (([] ++ l.take i) ++ [n]) ++ l.drop i := by rw [ht, hd]; simp [putI]
    rw [hput]
    have hsz : (l.take i).length ≤ l.length := by rw [List.length_take]; omega
    have hsd : (l.drop i).length ≤ l.length := by rw [List.length_drop]; omega
    refine Ev.succ ?_
    simp only [spec_l1Put.l0, Option.bind_some, Int.toNat_natCast]
    by_cases hi : i < l.length
    · have hge : ¬ l[i] < n := by
        have h0 : (l.dropWhile fun x => decide (x < n)) ≠ [] := by rw [← hd]; intro e; have := congrArg List.length e; rw [List.length_drop] at this; simp at this; omega
        have h1 := List.head_dropWhile_not (p := fun x => decide (x < n)) h0
        have h2 : (l.dropWhile fun x => decide (x < n)).head h0 = l[i] := by
          have : (l.drop i).head (by rw [hd]; exact h0) = l[i] := by rw [List.head_drop]
          rw [← this]
          congr 1
          rw [hd]
        rw [h2] at h1
        simpa using h1
      have hne : ¬ l[i] = n := fun e => hn (e ▸ List.getElem_mem hi)
      have e : rd l (i : Int) = l[i] := by simp [rd, hi]
      rw [e]
      refine Ev.pos (by omega) (Ev.pos (by omega) (Ev.neg hge (Ev.neg hne (Ev.pos (by omega) (Ev.pos (by simp; omega) (Ev.pos (by simp; omega) (Ev.pos (by simp; omega) (Ev.pure _))))))))
    · refine Ev.neg (by omega) (Ev.pos (by omega) (Ev.pos (by omega) (Ev.pos (by simp; omega) (Ev.pos (by simp; omega) (Ev.pos (by simp; omega) (Ev.pure _))))))
  | succ m ih =>
    intro i h
    have hi : i < (l.takeWhile fun x => decide (x < n)).length := by omega
    have hil : i < l.length := by omega
    have hlt : l[i] < n := by
      have h1 : (l.takeWhile fun x => decide (x < n))[i] = l[i] := by
        have hp := List.takeWhile_prefix (fun x => decide (x < n)) (l := l)
        exact hp.getElem hi
      have h2 := List.all_takeWhile (p := fun x => decide (x < n)) (l := l)
      rw [List.all_eq_true] at h2
      have h3 := h2 _ (List.getElem_mem hi)
      rw [h1] at h3
      simpa using h3
    have e : rd l (i : Int) = l[i] := by simp [rd, hil]
    refine Ev.succ ?_
    simp only [spec_l1Put.l0, e]
    rw [wnext i (by omega)]
    exact Ev.pos (by omega) (Ev.pos (by omega) (Ev.pos hlt (ih (i + 1) (by omega))))
theorem putI_ev (l : List Int) (n : Int) (hl : l.length ≤ 1000000) (hn : n ∉ l) : Ev (fun k => spec_l1Put.f k l n) (putI l n) := putI_l0 l n hl hn (l.takeWhile fun x => decide (x < n)).length 0 (by omega)
theorem srtI_pw (zs : List Int) : (srtI zs).Pairwise (· ≤ ·) := (List.pairwise_mergeSort (le := fun x y : Int => decide (x ≤ y)) (fun a b c h1 h2 => by simp at *; omega) (fun a b => by simp; omega) zs).imp (fun h => by simpa using h)
theorem putI_perm (l : List Int) (n : Int) : (putI l n).Perm (l ++ [n]) := by
  have htd := List.takeWhile_append_dropWhile (p := fun x => decide (x < n)) (l := l)
  conv => rhs; rw [← htd]
  unfold putI
  rw [List.append_assoc]
  exact List.Perm.append_left _ (List.perm_append_comm (l₁ := [n]))
theorem putI_pw (l : List Int) (n : Int) (h : l.Pairwise (· ≤ ·)) : (putI l n).Pairwise (· ≤ ·) := by
  have htd := List.takeWhile_append_dropWhile (p := fun x => decide (x < n)) (l := l)
  rw [← htd] at h
  obtain ⟨h1, h2, h3⟩ := List.pairwise_append.1 h
  have ht : ∀ x ∈ l.takeWhile fun x => decide (x < n), x < n := fun x hx => by
    have := List.all_takeWhile (p := fun x => decide (x < n)) (l := l)
    rw [List.all_eq_true] at this
    simpa using this x hx
  have hd : ∀ x ∈ l.dropWhile fun x => decide (x < n), n ≤ x := fun x hx => by
    have h0 : (l.dropWhile fun x => decide (x < n)) ≠ [] := List.ne_nil_of_mem hx
    have h4 := List.head_dropWhile_not (p := fun x => decide (x < n)) h0
    have h5 : n ≤ (l.dropWhile fun x => decide (x < n)).head h0 := by simpa using h4
    obtain ⟨y, ys, hy⟩ := List.exists_cons_of_ne_nil h0
    simp only [hy, List.head_cons] at h5
    rw [hy] at h2 hx
    rcases List.mem_cons.1 hx with rfl | hx
    · exact h5
    · have := (List.pairwise_cons.1 h2).1 x hx
      omega
  unfold putI
  refine List.pairwise_append.2 ⟨h1, List.pairwise_cons.2 ⟨hd, h2⟩, fun a ha b hb => ?_⟩
  have := ht a ha
  rcases List.mem_cons.1 hb with rfl | hb
  · omega
  · have := hd b hb
    omega
theorem put_srt (xs : List Int) (n : Int) : putI (srtI xs) n = srtI (xs ++ [n]) :=
  List.Perm.eq_of_pairwise (fun a b _ _ h1 h2 => by omega) (putI_pw _ _ (srtI_pw xs)) (srtI_pw _) ((putI_perm _ _).trans (((srtI_perm xs).append_right [n]).trans (srtI_perm _).symm))
theorem st_eq {s x y : ByteArray} (h1 : stP s x = true) (h2 : stP s y = true) (h : x.size = y.size) : x = y := by
  have a := (st_size h1).2.1
  have b := (st_size h2).2.1
  rw [h] at a
  exact (tl_eq x y).1 (a.symm.trans b)
theorem rowS_new {ws : List ByteArray} (hv : VW ws) (s : ByteArray) (i : Nat) (hi : i < ws.length) (h : stP s ws[i] = true) : ((ws[i].size : Nat) : Int) ∉ rowS (ws.take i) s := fun hm => by
  obtain ⟨x, hx, he⟩ := List.mem_map.1 hm
  obtain ⟨hxm, hxs⟩ := List.mem_filter.1 hx
  have e := st_eq hxs h (by omega)
  subst e
  obtain ⟨j, hj, hjx⟩ := List.getElem_of_mem hxm
  rw [List.getElem_take] at hjx
  have hjl : j < i := by rw [List.length_take] at hj; omega
  have := List.pairwise_iff_getElem.1 hv.ss j i (by omega) hi hjl
  rw [hjx] at this
  exact List.lt_irrefl _ this
theorem ext_mid (p : ByteArray) (a n : Nat) : (p.extract a p.size).extract 0 n = p.extract a (a + n) := lw_inj (by
  have e : ∀ (b : ByteArray) (i j : Nat), lw (b.extract i j) = (lw b).extract i j := fun b i j => by unfold lw; rw [ByteArray.data_extract, Array.toList_extract]
  rw [e, e, e, List.extract_eq_take_drop, List.extract_eq_take_drop, List.extract_eq_take_drop]
  simp only [Nat.sub_zero, List.drop_zero]
  rw [List.take_take, ← lw_length]
  by_cases h : n ≤ (lw p).length - a
  · rw [Nat.min_eq_left h, Nat.add_sub_cancel_left]
  · rw [Nat.min_eq_right (by omega), Nat.add_sub_cancel_left, List.take_of_length_le (by rw [List.length_drop]; omega), List.take_of_length_le (by rw [List.length_drop]; omega)])
theorem stands_eq (p x : ByteArray) (a : Nat) (ha : a ≤ p.size) (hp : p.size ≤ 60) (hx : x.size ≤ 12) (h0 : ¬ x.toList = []) : spec_l3Stands.f p x (a : Int) = some (stP (p.extract a p.size) x) := by
  have hz : x.size ≠ 0 := fun e => by
    have := (lw_inj (by have := lw_length x; rw [e] at this; rw [List.length_eq_zero_iff.1 this]; rfl) : x = ByteArray.empty)
    subst this
    exact absurd h0 (by simp)
  have hs : (p.extract a p.size).size = p.size - a := by rw [ByteArray.size_extract]; omega
  have ew : wrap64 ((a : Int) + (x.size : Int)) = ((a + x.size : Nat) : Int) := by unfold wrap64; omega
  unfold spec_l3Stands.f
  rw [ew]
  by_cases h : a + x.size ≤ p.size
  · rw [if_pos (by omega), if_pos (by omega), if_pos (by omega)]
    simp only [Int.toNat_natCast]
    refine congrArg some ?_
    unfold stP begW
    rw [decide_eq_true hz, Bool.true_and, hs, decide_eq_true (show x.size ≤ p.size - a by omega), Bool.true_and, ext_mid]
    rw [Bool.eq_iff_iff, beq_iff_eq, decide_eq_true_eq]
  · rw [if_neg (by omega)]
    refine congrArg some ?_
    unfold stP begW
    rw [hs, decide_eq_false (show ¬ x.size ≤ p.size - a by omega), Bool.false_and, Bool.and_false]
theorem matches_l0 {ws : List ByteArray} (hv : VW ws) (p : ByteArray) (a : Nat) (ha : a ≤ p.size) (hp : p.size ≤ 60) : ∀ (n i : Nat), i + n = ws.length → Ev (fun k => spec_l3Matches.l0 k ws p (a : Int) (srtI (rowS (ws.take i) (p.extract a p.size))) (i : Int)) (rowAt ws p a) := by
  have h40 := hv.len
  intro n
  induction n with
  | zero =>
    intro i h
    refine Ev.succ ?_
    simp only [spec_l3Matches.l0]
    rw [List.take_of_length_le (by omega)]
    exact Ev.neg (by omega) (Ev.pure _)
  | succ n ih =>
    intro i h
    have hi : i < ws.length := by omega
    have hr := rowS_take ws (p.extract a p.size) i hi
    have e : rdOf ByteArray.empty ws (i : Int) = ws[i] := by simp [rdOf, hi]
    rw [e] at hr
    have hl := rowS_length (ws.take i) (p.extract a p.size)
    rw [List.length_take] at hl
    have hz := (hv.ok _ (List.getElem_mem hi)).1
    have hih := ih (i + 1) (by omega)
    rw [hr] at hih
    refine Ev.succ ?_
    simp only [spec_l3Matches.l0, e]
    rw [wnext i (by omega)]
    refine Ev.pos (by omega) (Ev.pos (by omega) ?_)
    by_cases h0 : ws[i].toList = []
    · have hst : stP (p.extract a p.size) ws[i] = false := by
        have : ws[i].size = 0 := size0_of (by simp [h0])
        simp [stP, this]
      rw [hst] at hih
      exact Ev.pos h0 (by simpa using hih)
    · refine Ev.neg h0 (Ev.bindc (stands_eq p ws[i] a ha hp hz h0) ?_)
      cases hst : stP (p.extract a p.size) ws[i] with
      | false =>
        rw [hst] at hih
        exact Ev.neg (by decide) (by simpa using hih)
      | true =>
        rw [hst, if_pos rfl] at hih
        refine Ev.pos rfl (Ev.bind (putI_ev _ _ (by rw [srtI_length]; omega) (fun hm => rowS_new hv _ i hi hst ((srtI_perm _).mem_iff.1 hm))) ?_)
        rw [put_srt]
        exact hih
theorem matches_ev {ws : List ByteArray} (hv : VW ws) (p : ByteArray) (a : Nat) (ha : a ≤ p.size) (hp : p.size ≤ 60) : Ev (fun k => spec_l3Matches.f k ws p (a : Int)) (rowAt ws p a) := by
  unfold spec_l3Matches.f
  have h := matches_l0 hv p a ha hp ws.length 0 (by omega)
  rw [show srtI (rowS (ws.take 0) (p.extract a p.size)) = [] by simp [rowS, srtI]] at h
  exact h
end Go.Proofs.YtadpmgdmiaoniaaGreatDoor.Q
namespace Go.Proofs.YtadpmgdmiaoniaaGreatDoor.Q
open Go.RowKit Go.Proofs.YtadpmgdmiaoniaaGreatDoorW.PrintWords Go.Proofs.YtadpmgdmiaoniaaGreatDoorW.PrintLast
theorem markNodeS_l0 : ∀ (n : Nat) (l : List IN) (m i : Nat), i + n = l.length → l.length ≤ 1048576 → m ≤ 1 + 3 * i → ∃ r : Nat × List IN, Ev (fun k => laws_markNodeS.l0 k l (m : Int) (i : Int)) ((r.1 : Int), r.2) := by
  intro n
  induction n with
  | zero =>
    intro l m i h hl hm
    refine ⟨(m, l), Ev.succ ?_⟩
    simp only [laws_markNodeS.l0]
    exact Ev.neg (by omega) (Ev.pure _)
  | succ n ih =>
    intro l m i h hl hm
    have e1 : wrap64 ((m : Int) + 1) = ((m + 1 : Nat) : Int) := by unfold wrap64; omega
    have e2 : wrap64 (((m + 1 : Nat) : Int) + 1) = ((m + 2 : Nat) : Int) := by unfold wrap64; omega
    have e3 : wrap64 (((m + 2 : Nat) : Int) + 1) = ((m + 3 : Nat) : Int) := by unfold wrap64; omega
    obtain ⟨y, hy⟩ : ∃ y, y = l.set (i : Int).toNat (⟨(m : Int), (rd_T70 l (i : Int)).f1, (rd_T70 l (i : Int)).f2⟩ : IN) := ⟨_, rfl⟩
    obtain ⟨z, hz⟩ : ∃ z, z = y.set (i : Int).toNat (⟨(rd_T70 y (i : Int)).f0, ((m + 1 : Nat) : Int), (rd_T70 y (i : Int)).f2⟩ : IN) := ⟨_, rfl⟩
    have hyl : y.length = l.length := by rw [hy, List.length_set]
    have hzl : z.length = l.length := by rw [hz, List.length_set, hyl]
    obtain ⟨r, hr⟩ := ih (z.set (i : Int).toNat ⟨(rd_T70 z (i : Int)).f0, (rd_T70 z (i : Int)).f1, ((Int.tmod ((m + 2 : Nat) : Int) 3) == 0)⟩) (m + 3) (i + 1) (by rw [List.length_set, hzl]; omega) (by rw [List.length_set, hzl]; exact hl) (by omega)
    refine ⟨r, Ev.succ ?_⟩
    simp only [laws_markNodeS.l0, e1, e2, e3, Option.bind_some]
    rw [wnext i (by omega), ← hy, ← hz]
    exact Ev.pos (by omega) (Ev.pos (by omega) hr)
theorem markTrie_ev (l : List IN) (hl : l.length ≤ 1048576) : ∃ r : Nat × List IN, Ev (fun k => laws_markTrie.f k l 1) ((r.1 : Int), r.2) := by
  obtain ⟨r, hr⟩ := markNodeS_l0 l.length l 1 0 (by omega) hl (by omega)
  exact ⟨r, by unfold laws_markTrie.f laws_markNodeS.f; exact Ev.bind hr (Ev.pure _)⟩
end Go.Proofs.YtadpmgdmiaoniaaGreatDoor.Q
namespace Go.Proofs.YtadpmgdmiaoniaaGreatDoor.Q
open Go.RowKit Go.Proofs.YtadpmgdmiaoniaaGreatDoorW.PrintWords Go.Proofs.YtadpmgdmiaoniaaGreatDoorW.PrintLast
theorem eqQ_ev (a b : List IP) (hl : a.length ≤ 1099511627776) : Ev (fun _ => laws_eqIntA2S.f a b) (decide (a = b)) := by
  unfold laws_eqIntA2S.f
  rw [if_pos hl]
  exact Ev.pure _
theorem markQ_ev (l : List IP) (hl : l.length ≤ 1099511627776) : ∃ ms : List IP, Ev (fun _ => laws_markIntA2S.f l 1) (2 * (l.length : Int) + 1, ms) ∧ Ev (fun _ => laws_heldIntA2S.f ms 1) (2 * (l.length : Int) + 1) := by
  refine ⟨markedP l.length, ?_, ?_⟩
  · unfold laws_markIntA2S.f
    rw [if_pos ⟨hl, rfl⟩]
    exact Ev.pure _
  · unfold laws_heldIntA2S.f
    rw [markedP_len, if_pos ⟨hl, rfl, rfl⟩]
    exact Ev.pure _
end Go.Proofs.YtadpmgdmiaoniaaGreatDoor.Q
namespace Go.Proofs.YtadpmgdmiaoniaaGreatDoor.Q
open Go.ChangeShapes Go.WideShapes Go.Deep Go.RowKit Go.Proofs.YtadpmgdmiaoniaaGreatDoorW.PrintWords Go.Proofs.YtadpmgdmiaoniaaGreatDoorW.PrintLast Go.Proofs.YtadpmgdmiaoniaaGreatDoorW.PrintMore
def I64 (n : Int) : Prop := -9223372036854775808 ≤ n ∧ n ≤ 9223372036854775807
theorem I64_of {n : Int} (h : (Lit.int .i64 n).wf = true) : I64 n := by
  have h1 : IntKind.i64.min = -9223372036854775808 := by decide
  simp [Lit.wf, h1] at h
  exact h
set_option maxRecDepth 100000 in
theorem open_trie {H : Type} {enc : TypeId × Value → H} {w : World} {base b0 : Nat} {spare : Nat → Bool} {held : Bool} {r : Reach} {v : Value} {d : DataW H} {p : List MemPlace} (hv : Value.okWide Tryz.prog w r b0 24 v) (h : DataW.Trod enc Tryz.prog w base spare held 24 v d p) :
    ∃ (A : Option Addr) (c : Nat) (l : List S75), v = .agg #[.slice A l.length c] ∧ Kd.C k75 w A l.length l ∧ l.length ≤ c ∧ l.length ≤ maxLen ∧ ∀ x ∈ l, I64 x.f0 ∧ I64 x.f1 := by
  obtain ⟨cs, rfl, hsz⟩ := okWide_struct Tryz.underlying24 hv
  have hct : Tryz.prog.cellsOf 24 = 1 := by kernel_rfl
  have hsz1 : cs.size = 1 := hsz.trans hct
  obtain ⟨c0, rfl⟩ : ∃ c0, cs = #[c0] := ⟨cs[0], by
    apply Array.ext
    · simp [hsz1]
    · intro i h1 h2
      have : i = 0 := by omega
      subst this; rfl⟩
  obtain ⟨fuel, hf⟩ := h
  obtain ⟨xs, n, _, hx, _, hlen, hg⟩ := DataW.trod_struct Tryz.underlying24 hf
  have h0 := hg 0 _ rfl
  have hc1 : Tryz.prog.cellsOf 22 = 1 := by kernel_rfl
  simp only [Value.cells, List.drop_zero, hc1] at h0
  have h0' : DataW.trod enc Tryz.prog w base spare held n 22 [c0] = xs[0]? := h0
  rw [List.getElem?_eq_getElem (show 0 < xs.length by rw [hlen]; decide)] at h0'
  have hC : Tryz.prog.cellsOf 75 = 3 := by kernel_rfl
  have i1 : Tryz.prog.cellsOf 3 = 1 := by kernel_rfl
  have i2 : Tryz.prog.cellsOf 4 = 1 := by kernel_rfl
  rcases open_slice Tryz.underlying22 h0' with ⟨e, _⟩ | ⟨a, len, cap, m, n', D, Pl, e, _, hl, hm, hmm, _, hi⟩
  · injection e with e
    subst e
    exact ⟨none, 0, [], rfl, ⟨rfl, by decide, fun h => absurd h (by decide)⟩, Nat.le_refl _, Nat.zero_le _, fun x hx => by cases hx⟩
  · injection e with e
    subst e
    have hlm : len ≤ m := by rw [hmm]; split <;> omega
    have hex : ∀ i, i < len → ∃ x : S75, I64 x.f0 ∧ I64 x.f1 ∧ ∀ j u, [Value.int .i64 x.f0, .int .i64 x.f1, .bool x.f2][j]? = some u → w.cell? (a.add (i * 3 + j)) = some u := by
      intro i hil
      obtain ⟨cs', hc, ht'⟩ := hi i (by omega)
      rw [hC] at hc
      obtain ⟨ys, n2, _, _, hcl, hyl, hfl⟩ := DataW.trod_struct Tryz.underlying75 ht'
      obtain ⟨_, hcl3, hat⟩ := World.cells?_some hc
      have f0 := hfl 0 _ rfl
      have f1 := hfl 1 _ rfl
      have f2 := hfl 2 _ rfl
      rw [hC] at hcl
      obtain ⟨u0, u1, u2, rfl⟩ : ∃ u0 u1 u2, cs' = [u0, u1, u2] := by
        match cs', hcl with
        | [u0, u1, u2], _ => exact ⟨u0, u1, u2, rfl⟩
      replace f0 : DataW.trod enc Tryz.prog w base spare held n2 3 ((List.drop 0 [u0, u1, u2]).take (Tryz.prog.cellsOf 3)) = ys[0]? := f0
      rw [i1] at f0
      replace f0 : DataW.trod enc Tryz.prog w base spare held n2 3 [u0] = ys[0]? := f0
      replace f1 : DataW.trod enc Tryz.prog w base spare held n2 3 ((List.drop 1 [u0, u1, u2]).take (Tryz.prog.cellsOf 3)) = ys[1]? := f1
      rw [i1] at f1
      replace f1 : DataW.trod enc Tryz.prog w base spare held n2 3 [u1] = ys[1]? := f1
      replace f2 : DataW.trod enc Tryz.prog w base spare held n2 4 ((List.drop 2 [u0, u1, u2]).take (Tryz.prog.cellsOf 4)) = ys[2]? := f2
      rw [i2] at f2
      replace f2 : DataW.trod enc Tryz.prog w base spare held n2 4 [u2] = ys[2]? := f2
      rw [List.getElem?_eq_getElem (show 0 < ys.length by rw [hyl]; decide)] at f0
      rw [List.getElem?_eq_getElem (show 1 < ys.length by rw [hyl]; decide)] at f1
      rw [List.getElem?_eq_getElem (show 2 < ys.length by rw [hyl]; decide)] at f2
      obtain ⟨x0, e0, _, w0⟩ := DataW.trod_int Tryz.underlying3 f0
      obtain ⟨x1, e1, _, w1⟩ := DataW.trod_int Tryz.underlying3 f1
      obtain ⟨x2, e2, _⟩ := DataW.trod_bool Tryz.underlying4 f2
      injection e0 with e0
      injection e1 with e1
      injection e2 with e2
      subst e0; subst e1; subst e2
      refine ⟨⟨x0, x1, x2⟩, I64_of w0, I64_of w1, fun j u hj => ?_⟩
      obtain ⟨hj3, hju⟩ := List.getElem?_eq_some_iff.1 hj
      rw [← Go.Deep.add_add, hat j (show j < 3 from hj3)]
      exact hj
    obtain ⟨f, hf⟩ : ∃ f : Nat → S75, ∀ i, i < len → I64 (f i).f0 ∧ I64 (f i).f1 ∧ ∀ j u, [Value.int .i64 (f i).f0, .int .i64 (f i).f1, .bool (f i).f2][j]? = some u → w.cell? (a.add (i * 3 + j)) = some u :=
      ⟨fun i => if h : i < len then Classical.choose (hex i h) else ⟨0, 0, false⟩, fun i h => by simp only [h, dite_true]; exact Classical.choose_spec (hex i h)⟩
    have hfl : ((List.range len).map f).length = len := by simp
    refine ⟨some a, cap, (List.range len).map f, by rw [hfl], ?_, by rw [hfl]; exact hl, by rw [hfl]; omega, ?_⟩
    · rw [hfl]
      refine ⟨by simp, by unfold maxLen at hm; omega, fun _ => ⟨a, rfl, fun j p hj => ?_⟩⟩
      obtain ⟨hjl, rfl⟩ := List.getElem?_eq_some_iff.1 hj
      rw [hfl] at hjl
      refine ⟨_, rfl, k75_mk w _, fun i u hu => ?_⟩
      simp only [List.getElem_map, List.getElem_range] at hu
      exact (hf j hjl).2.2 i u hu
    · intro x hx
      obtain ⟨i, hi, rfl⟩ := List.mem_map.1 hx
      exact ⟨(hf i (List.mem_range.1 hi)).1, (hf i (List.mem_range.1 hi)).2.1⟩
end Go.Proofs.YtadpmgdmiaoniaaGreatDoor.Q
namespace Go.Proofs.YtadpmgdmiaoniaaGreatDoor.Q
open Go.RowKit Go.Proofs.YtadpmgdmiaoniaaGreatDoorW.PrintWords Go.Proofs.YtadpmgdmiaoniaaGreatDoorW.PrintLast
def pairA (a : Nat) (n : Int) : S52 := ⟨(a : Int), n⟩
def pairsF (ws : List ByteArray) (p : ByteArray) : Nat → Nat → List S52 → List S52
  | 0, _, o => o
  | n + 1, a, o => pairsF ws p n (a + 1) (o ++ (rowAt ws p a).map (pairA a))
theorem pairsF_length {ws : List ByteArray} (hv : VW ws) (p : ByteArray) : ∀ (n a : Nat) (o : List S52), (pairsF ws p n a o).length ≤ o.length + 40 * n
  | 0, _, o => Nat.le_refl _
  | n + 1, a, o => by
    have h := pairsF_length hv p n (a + 1) (o ++ (rowAt ws p a).map (pairA a))
    have hr := rowAt_length hv p a
    rw [List.length_append, List.length_map] at h
    show (pairsF ws p n (a + 1) _).length ≤ _
    omega
theorem take_map {row : List Int} {i : Nat} (hi : i < row.length) (a : Nat) (o : List S52) : (o ++ (row.take i).map (pairA a)) ++ [(⟨(a : Int), rd row (i : Int)⟩ : S52)] = o ++ (row.take (i + 1)).map (pairA a) := by
  rw [List.take_succ_eq_append_getElem hi, List.map_append, List.append_assoc, rdI_nat row hi]
  rfl
theorem spec_st_l1 {ws : List ByteArray} (p : ByteArray) (a : Nat) (row : List Int) (hrl : row.length ≤ 40) (o : List S52) (ho : o.length ≤ 100000) (r : List S52 × Bool)
    (hn : Ev (fun k => spec_StandingWords.l0 k p (o ++ row.map (pairA a)) ws (wrap64 ((a : Int) + 1))) r) : ∀ (n i : Nat), i + n = row.length → Ev (fun k => spec_StandingWords.l1 k p (o ++ (row.take i).map (pairA a)) ws (a : Int) row (i : Int)) r := by
  intro n
  induction n with
  | zero =>
    intro i h
    refine Ev.succ ?_
    simp only [spec_StandingWords.l1]
    rw [List.take_of_length_le (by omega)]
    exact Ev.neg (by omega) hn
  | succ n ih =>
    intro i h
    have hi : i < row.length := by omega
    refine Ev.succ ?_
    simp only [spec_StandingWords.l1]
    rw [take_map hi, wnext i (by omega)]
    exact Ev.pos (by omega) (Ev.pos (by omega) (Ev.pos (by rw [List.length_append, List.length_map, List.length_take]; omega) (ih (i + 1) (by omega))))
theorem spec_st_l0 {ws : List ByteArray} (hv : VW ws) (p : ByteArray) (hp : p.size ≤ 60) : ∀ (n a : Nat) (o : List S52), a + n = p.size → o.length ≤ 40 * a → Ev (fun k => spec_StandingWords.l0 k p o ws (a : Int)) (pairsF ws p n a o, true)
  | 0, a, o, h, ho => by
    refine Ev.succ ?_
    simp only [spec_StandingWords.l0]
    exact Ev.neg (by omega) (Ev.pure _)
  | n + 1, a, o, h, ho => by
    have hr := rowAt_length hv p a
    refine Ev.succ ?_
    simp only [spec_StandingWords.l0]
    refine Ev.pos (by omega) (Ev.bind (matches_ev hv p a (by omega) hp) ?_)
    have h1 := spec_st_l1 (ws := ws) p a (rowAt ws p a) hr o (by omega) (pairsF ws p (n + 1) a o, true) (by
      rw [wnext a (by omega)]
      exact spec_st_l0 hv p hp n (a + 1) _ (by omega) (by rw [List.length_append, List.length_map]; omega)) (rowAt ws p a).length 0 (by omega)
    simpa using h1
theorem impl_st_l1 (L : List (List Int)) (a : Nat) (row : List Int) (hrl : row.length ≤ 40) (o : List S52) (ho : o.length ≤ 100000) (c : Int) (r : List S52 × Bool)
    (hn : Ev (fun k => impl_StandingWords.l0 k (o ++ row.map (pairA a)) L c (wrap64 ((a : Int) + 1))) r) : ∀ (n i : Nat), i + n = row.length → Ev (fun k => impl_StandingWords.l1 k (o ++ (row.take i).map (pairA a)) (a : Int) L c (a : Int) row (row.length : Int) (i : Int)) r := by
  intro n
  induction n with
  | zero =>
    intro i h
    refine Ev.succ ?_
    simp only [impl_StandingWords.l1]
    rw [List.take_of_length_le (by omega)]
    exact Ev.neg (by omega) hn
  | succ n ih =>
    intro i h
    have hi : i < row.length := by omega
    refine Ev.succ ?_
    simp only [impl_StandingWords.l1]
    rw [take_map hi, wnext i (by omega)]
    exact Ev.pos (by omega) (Ev.pos (by omega) (Ev.pos (by omega) (Ev.pos (by rw [List.length_append, List.length_map, List.length_take]; omega) (ih (i + 1) (by omega)))))
theorem impl_st_l0 {ws : List ByteArray} (hv : VW ws) (p : ByteArray) (hp : p.size ≤ 60) : ∀ (n a : Nat) (o : List S52), a + n = p.size → o.length ≤ 40 * a → Ev (fun k => impl_StandingWords.l0 k o (standW ws p) ((p.size + 1 : Nat) : Int) (a : Int)) (pairsF ws p n a o, true)
  | 0, a, o, h, ho => by
    have he := rowAt_end ws p a (by omega)
    refine Ev.succ ?_
    simp only [impl_StandingWords.l0]
    rw [stand_at ws p a (by omega), he, standW_length]
    refine Ev.pos (by omega) (Ev.pos (by omega) (Ev.pos (by omega) (Ev.succ ?_)))
    simp only [impl_StandingWords.l1]
    refine Ev.neg (by simp) (Ev.succ ?_)
    simp only [impl_StandingWords.l0]
    rw [wnext a (by omega)]
    exact Ev.neg (by omega) (Ev.pure _)
  | n + 1, a, o, h, ho => by
    have hr := rowAt_length hv p a
    refine Ev.succ ?_
    simp only [impl_StandingWords.l0]
    rw [stand_at ws p a (by omega), standW_length]
    refine Ev.pos (by omega) (Ev.pos (by omega) (Ev.pos (by omega) ?_))
    have h1 := impl_st_l1 (standW ws p) a (rowAt ws p a) hr o (by omega) ((p.size + 1 : Nat) : Int) (pairsF ws p (n + 1) a o, true) (by
      rw [wnext a (by omega)]
      exact impl_st_l0 hv p hp n (a + 1) _ (by omega) (by rw [List.length_append, List.length_map]; omega)) (rowAt ws p a).length 0 (by omega)
    simpa using h1
theorem both_StandingWords (l0 : List IN) (a1 : ByteArray) : ∃ r, Ev (fun k => spec_StandingWords.f k l0 a1) r ∧ Ev (fun k => impl_StandingWords.f k l0 a1) r ∧ r.1.length ≤ 1099511627776 := by
  unfold spec_StandingWords.f impl_StandingWords.f
  simp only [Option.bind_some]
  rcases pass_cases l0 a1 with ⟨h1, h2⟩ | ⟨ws, hv, rfl, hs, h1, h2, h3⟩
  · exact ⟨([], false), Ev.bind h2 (Ev.neg (by decide) (Ev.pure _)), Ev.bind h1 (Ev.neg (by decide) (Ev.pure _)), by decide⟩
  · have hl := pairsF_length hv a1 a1.size 0 []
    refine ⟨(pairsF ws a1 a1.size 0 [], true), Ev.bind h2 (Ev.pos rfl (Ev.bind (specWords hv) (spec_st_l0 hv a1 hs a1.size 0 [] (by omega) (by simp)))), Ev.bind h1 (Ev.pos rfl (Ev.bindc h3 ?_)), by simp only [List.length_nil] at hl ⊢; omega⟩
    rw [standW_length]
    exact impl_st_l0 hv a1 hs a1.size 0 [] (by omega) (by simp)
theorem pure_FnExactStandingWords (l0 : List LN) (a1 : ByteArray) (hl_l0 : l0.length ≤ maxLen) (hI_l0 : ∀ x ∈ l0, I64 x.f0 ∧ I64 x.f1) (hw_a1 : a1.size ≤ 140737488351232) : ∃ k, laws_FnExactStandingWords.f k l0 a1 = some true := by
  refine Ev.ex ?_
  unfold laws_FnExactStandingWords.f
  by_cases hs1 : (a1.size : Int) > 1048576
  · exact Ev.pos hs1 (Ev.pure _)
  refine Ev.neg hs1 ?_
  by_cases h_l0 : l0.length ≤ 1048576
  case neg => exact Ev.bindc (szTrie_eq l0 (by unfold maxLen at hl_l0; omega)) (by rw [if_neg h_l0]; exact Ev.pos (by decide) (Ev.pure _))
  refine Ev.bindc (szTrie_eq l0 (by unfold maxLen at hl_l0; omega)) ?_
  rw [if_pos h_l0]
  refine Ev.neg (by omega) ?_
  have ht_l0 := toTrie_ev l0 (by omega)
  have hc_l0 : (cv l0).length ≤ 1048576 := by rw [cv_length]; omega
  obtain ⟨r, e1, e2, hr⟩ := both_StandingWords (cv l0) a1
  have hq := eqQ_ev r.1 r.1 hr
  refine (Ev.bind ht_l0 (Ev.bind e1 (Ev.bind ht_l0 (Ev.bind e2 (Ev.bind hq (Ev.pos (by simp) (Ev.succ ?_)))))))
  simp only [laws_FnExactStandingWords.j0]
  obtain ⟨m, hm⟩ := markTrie_ev (cv l0) hc_l0
  refine Ev.neg (by simp) (Ev.bind ht_l0 (Ev.bind (eqTrie_ev _ _ hc_l0) (Ev.pos (by simp) (Ev.bind hm (Ev.neg (by simp only; omega) (Ev.bind hq (Ev.pos (by simp) (Ev.succ ?_))))))))
  simp only [laws_FnExactStandingWords.j1]
  obtain ⟨ms, hs1, hs2⟩ := markQ_ev r.1 hr
  refine Ev.neg (by simp) (Ev.bind hs1 (Ev.bind hs2 (Ev.neg (by omega) (Ev.pos rfl (Ev.bind ht_l0 (Ev.bind e2 (Ev.bind hq (Ev.pos (by simp) (Ev.succ ?_)))))))))
  simp only [laws_FnExactStandingWords.j2]
  exact Ev.neg (by simp) (Ev.bind hs2 (Ev.neg (by omega) (Ev.pos rfl (Ev.pure _))))
end Go.Proofs.YtadpmgdmiaoniaaGreatDoor.Q
namespace Go.Proofs.YtadpmgdmiaoniaaGreatDoor.Pure
theorem FnExactStandingWords (l0 : List Q.LN) (a1 : ByteArray) (hl_l0 : l0.length ≤ maxLen) (hI_l0 : ∀ x ∈ l0, Q.I64 x.f0 ∧ Q.I64 x.f1) (hw_a1 : a1.size ≤ 140737488351232) : ∃ k, Q.laws_FnExactStandingWords.f k l0 a1 = some true := Q.pure_FnExactStandingWords l0 a1 hl_l0 hI_l0 hw_a1
end Go.Proofs.YtadpmgdmiaoniaaGreatDoor.Pure
namespace Go.Proofs.YtadpmgdmiaoniaaGreatDoor.fnExactStandingWords
open Go.ChangeShapes Go.WideShapes Go.ChangeAt Go.RowKit
open Go.ChangeMaps (open_string shut_string)
set_option linter.unusedVariables false
theorem own : ownKnob Tryz.prog.godebug = none := by kernel_rfl
theorem laidOut : laidOutB Tryz.prog = true := by kernel_rfl
set_option maxRecDepth 100000 in
theorem lifted (os : Os) (started : os.Started) (H : Type) (enc : TypeId × Value → H) :
    ReturnsInHanded {} Tryz.checked os 3 .any (fun w args => (Rows.fnExactStandingWordsSpec.pre enc Tryz.prog Tryz.f3 Rows.fnExactStandingWordsRow.domain false w args ∧ laidMetH Tryz.prog Rows.fnExactStandingWordsRow.laid w) ∧ sizedMet enc Tryz.prog Tryz.f3 (OpenSpec.ofChange Rows.fnExactStandingWordsSpec) false w args) (Rows.fnExactStandingWordsSpec.post enc Tryz.prog Tryz.f3 false true false false) := by
  refine returnsInHanded_of_change_and (C := Tryz.checked) (X := fun w _ => laidMetH Tryz.prog Rows.fnExactStandingWordsRow.laid w) (fun _ _ _ hh h => h.of_heap hh) own started (by kernel_rfl) Tryz.func3
    (ChangeSpec.witness_shaped (enc := enc) (C := Tryz.checked) (os := os) (X := fun w _ => laidMetH Tryz.prog Rows.fnExactStandingWordsRow.laid w) false (World.laidAll Tryz.prog os Rows.fnExactStandingWordsRow.laid) #[.agg #[.slice none 0 0], .string ByteArray.empty] 8 (World.laidAll_os _ _ _)
      (World.shaped_of_ZipB (by kernel_rfl) (by kernel_rfl)) (by kernel_rfl) (by kernel_rfl) (by kernel_rfl)
      (by rw [MakeChecks.laidMetH_plain _ _ _ (by kernel_rfl)]; exact laidMet_laidAll _ (by kernel_rfl) (by kernel_rfl))) ?_
  intro W base args ds gs before hval0 hW hcnd hsz0 hL _
  have hsz : (DataW.weightsEach Tryz.prog (Tryz.f3.params.toList ++ Rows.fnExactStandingWordsSpec.plain.varTypes Tryz.prog) (ds ++ gs)).all (· ≤ reachBytes) = true := hsz0
  have hval : ∀ (j : Nat) t v, Tryz.f3.params[j]? = some t → args[j]? = some v → Value.okWide Tryz.prog W .any base t v := hval0
  have hW' := hW
  obtain ⟨p, q, hA0, hV, rfl, hfz, hnd⟩ := hW
  have hA : DataW.TrodAll enc Tryz.prog W 0 (fun _ => true) true Tryz.f3.params.toList args.toList ds p := hA0
  rw [Tryz.params3] at hA hval hsz
  obtain ⟨v0, vs0, d0, ds0, p0, q0, hargs, rfl, rfl, h0, r0⟩ := trodAll_cons hA
  obtain ⟨v1, vs1, d1, ds1, p1, q1, rfl, rfl, rfl, h1, r1⟩ := trodAll_cons r0
  obtain ⟨rfl, rfl, rfl⟩ := trodAll_nil r1
  obtain rfl : args = #[v0, v1] := by cases args; simp_all
  obtain ⟨rfl, rfl⟩ := trodVars_none hV
  have k0 := h0
  have lt0 : ∀ x ∈ p0, x.block < W.heap.size := by obtain ⟨m, hm⟩ := k0; exact DataW.trod_lt m _ _ _ hm
  obtain ⟨A0, c0, l0, rfl, hC0, hc0, hl0, hI0⟩ := Q.open_trie (hval 0 24 v0 rfl rfl) h0
  obtain ⟨a1, rfl, rfl, rfl, y1⟩ := open_string Tryz.underlying9 (hval 1 9 v1 rfl rfl) h1
  have w1 : a1.size ≤ 140737488351232 := by
    have z := sized_string hsz (j := 1) (t := 9) rfl rfl
    rw [Array.length_toList] at z
    exact z
  clear hA0 hval0 hsz0 hsz
  obtain ⟨k, hk⟩ := Pure.FnExactStandingWords l0 a1 hl0 hI0 w1
  refine (Q.laws_FnExactStandingWords.calls k A0 c0 l0 a1 true W hC0 hc0 hk).mono fun e W' ⟨he, bel0⟩ => ?_
  have bel : Below W.heap.size W W' := bel0
  subst he
  exact ⟨_, rfl, _, _, _, [], _, [], hW', trodAll_mk1 (shut_bool Tryz.underlying4 _), (trodAll_cons_mk (Below.trod laidOut (by kernel_rfl) (of_decide_eq_true (by kernel_rfl)) k0 bel lt0) (trodAll_cons_mk (shut_string Tryz.underlying9 y1) trodAll_mk0)), rfl, bel.frame _, fun h => by cases h⟩
theorem over : Rows.fnExactStandingWordsRow.holds Tryz.pinned (OpenSpec.ofChange Rows.fnExactStandingWordsSpec) :=
  OpenClaim.holds_of_wide 3 Tryz.f3 rfl rfl rfl rfl rfl rfl rfl ⟨rfl, rfl, rfl, rfl, rfl⟩ rfl rfl rfl rfl rfl (by kernel_rfl) Tryz.func3 (by kernel_rfl)
    (of_decide_eq_true (by kernel_rfl)) (by unfold Func.isWrapper; first | (rw [if_pos (by decide +kernel)]; kernel_rfl) | (rw [if_neg (by decide +kernel)]; exact ⟨rfl, rfl⟩))
    (fun os started H enc _ => lifted os started H enc)
set_option maxRecDepth 100000 in
theorem proved : Rows.FnExactStandingWordsCardSaid :=
  Claim7.holds_tied_plain_at .later [] [.data, .pinned] true (true, "a66be70c566b356ec5f8f9c514f9a383c5bdb47e0ee55bd527b57172c946a720") false over (fun _ h => by cases h) (by kernel_rfl) (fun _ h => by cases h) fnExactStandingWords_row_tie rfl ⟨rfl, rfl⟩ (by kernel_rfl) rfl
    (fun f fn hf hfn => by
      obtain rfl : f = 3 := Option.some.inj ((show Tryz.prog.funcNamed Tryz.f3.name = some 3 by kernel_rfl).symm.trans hf) |>.symm
      obtain rfl : fn = Tryz.f3 := (Option.some.inj (Tryz.func3.symm.trans hfn)).symm
      exact ⟨by kernel_rfl, fun j t ht => by
        rw [Tryz.params3] at ht
        have hm : t ∈ [24, 9] := by simpa using Array.mem_of_getElem? ht
        have hall : ([24, 9].all fun u => !Tryz.prog.wantsStandIn u) = true := by kernel_rfl
        exact (show Tryz.prog.wantsStandIn t = false by simpa using List.all_eq_true.1 hall t hm)⟩)
    (by kernel_rfl)
end Go.Proofs.YtadpmgdmiaoniaaGreatDoor.fnExactStandingWords
namespace Go.Proofs.YtadpmgdmiaoniaaGreatDoor
theorem fnExactStandingWords_holds : Rows.FnExactStandingWordsCardSaid := fnExactStandingWords.proved
end Go.Proofs.YtadpmgdmiaoniaaGreatDoor
