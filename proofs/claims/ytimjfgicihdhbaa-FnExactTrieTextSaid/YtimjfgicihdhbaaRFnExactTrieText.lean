/- The law FnExactTrieText: for every input the call answers true and leaves its arguments as they were. -/
import Derived.Test.YtimjfgicihdhbaaH0
import Derived.Test.YtimjfgicihdhbaaH1
import Derived.Test.YtimjfgicihdhbaaH2
import Derived.Test.YtimjfgicihdhbaaH3
import Derived.Test.YtimjfgicihdhbaaH4
import Derived.Test.YtimjfgicihdhbaaH10
import Derived.Test.YtimjfgicihdhbaaProg
import Derived.Below
import Derived.Deep.Draws
import Derived.Deep.AppendLies
import Derived.Maps.AppendAt
import Derived.OwnWalk
import Derived.Laws.BytesArg
import Derived.Laws.MakeOwn
import Derived.Laws.OwnMore
import Derived.Deep.OwnRows
import Derived.Tactics
import Derived.Lib.ConvBytes
import Derived.Laws.Slices
import Derived.WalkKit
import Derived.KernelRfl
import Derived.RowKit3
import Derived.Deep.LoopGhost
import Derived.Deep.QuietTactic
import Derived.BigQuiet
import Derived.WideLaws
import Derived.Deep.DeepCutAuto
import Derived.Deep.CutBlock
import Derived.Deep.RegionHeld3
import Derived.Laws.Rows
import Derived.Lib.AppendStr
import Derived.ArgAppend
import Derived.Laws.IdiomCopy
import Derived.OrdersHeld
import Derived.Laws.BitsLemmas
import Derived.RowKit
import Derived.Lib.SlicesCompact
import Derived.Maps.Own
import Derived.StringKeys
import Derived.Maps.OwnOps
import Derived.Maps.OwnSet
import Derived.Maps.Views
import Derived.Laws.AppendOwn
import Derived.Deep.DrawnRows
import Derived.Shelf.Sort.Plain
import Derived.Shelf.Slices.CompactS
import Derived.Shelf.Slices.In.SortNone
import Derived.RangeFuncBox
import Derived.RangeFuncLeaves
import Derived.Shelf.Abstract
import Derived.OwnWalkIn
import Derived.TacticsInMore
import Derived.LoopNIn
import Derived.LoopIn
import Derived.Lib.OwnBridge
import Derived.Sort.OwnSorted
import Derived.Sort.Grow
import Derived.Shelf.Strings.OnBuilder
import Derived.Shelf.SlicesE.DeleteFunc
import Derived.Ground.NamesProg
import Derived.Ground.SlgfProg
import Derived.Sort.Walk0
import Derived.Lib.Strings
import Derived.Lib.SliceRun
import Derived.Deep.Slices
import Derived.Deep.Fields
import Derived.ChangeSame
import Derived.ChangeArms
import Derived.WideShapes
import Derived.Test.YtimjfgicihdhbaaRows
import Derived.ProofKit
import Derived.OpenShut
import Derived.ShutString
import Derived.ChangeOld
import Derived.SizedLaws
import Derived.Carry
set_option linter.unusedVariables false
set_option linter.unusedSimpArgs false
namespace Go.Proofs.Ytimjfgicihdhbaa.Q
open Go.RowKit Go.Proofs.YtimjfgicihdhbaaW.PrintWords Go.Proofs.YtimjfgicihdhbaaW.PrintLast Go.Proofs.YtimjfgicihdhbaaW.PrintMore
attribute [local go_sem] max2_int min2_int max_two min_two max_three min_three max_four min_four   -- for this text's walks alone
set_option linter.unusedVariables false
set_option linter.unusedSimpArgs false
theorem info3 : (Try.prog.info? 3).map (fun i => (i.zero, i.size, i.bytes)) = some (some (.int .i64 0), 1, 8) := by kernel_rfl
end Go.Proofs.Ytimjfgicihdhbaa.Q
namespace Go.Proofs.Ytimjfgicihdhbaa.Q
open Go.RowKit Go.Proofs.YtimjfgicihdhbaaW.PrintWords Go.Proofs.YtimjfgicihdhbaaW.PrintLast Go.Proofs.YtimjfgicihdhbaaW.PrintMore
attribute [local go_sem] run_field_23 run_field_24 run_field_28 run_field_29 isSome_setCell max2_int min2_int max_two min_two max_three min_three max_four min_four   -- for this text's walks alone
set_option linter.unusedVariables false
set_option linter.unusedSimpArgs false
def spec_l2Kids.l0 : Nat → Int → List Int → Int → List (S79) → Option (List Int)
  | 0, _, _, _, _ => none
  | k + 1, x1, x5, x6, x534000 => if x6 < (x534000.length : Int) then (if 0 ≤ x6 then (if ((rd_T79 x534000 x6).f1) = x1 then (if x5.length < 17592186044416 then (spec_l2Kids.l0 k x1 (x5 ++ [x6]) (wrap64 (x6 + 1)) x534000) else (none)) else (spec_l2Kids.l0 k x1 x5 (wrap64 (x6 + 1)) x534000)) else (none)) else (some x5)
def spec_l2Kids.f (k : Nat) (l0_0 : List (S79)) (a1 : Int) : Option (List Int) := spec_l2Kids.l0 k a1 (([] : List Int)) (wrap64 (a1 + 1)) l0_0
set_option maxHeartbeats 8000000 in
set_option maxRecDepth 100000 in
theorem spec_l2Kids.calls (k : Nat) (A0_0 : Option Addr) (c0_0 : Nat) (l0_0 : List (S79)) (a1 : Int) (r : List Int) (w : World) (hr0_0 : Kd.C k79 w A0_0 l0_0.length l0_0) (hc0_0 : l0_0.length ≤ c0_0) (h : spec_l2Kids.f k l0_0 a1 = some r) :
    Calls Try.prog 76 #[.agg #[.slice A0_0 l0_0.length c0_0], .int .i64 a1] w fun e w' => ∃ v0_ : Value, e = .returned (v0_) ∧ Kd.R (Kd.int .i64) 3 w' w.heap.size (fun _ => True) v0_ r ∧ Below w.heap.size w w' := by
  have hu29 := Try.underlying29
  have HR0_0 := Aside0.mk hr0_0
  have HC0_0 := Aside0.mk hc0_0
  clear hr0_0 hc0_0
  have HB := Aside0.mk (Below.refl w.heap.size w)
  have H : (spec_l2Kids.l0 k a1 (([] : List Int)) (wrap64 (a1 + 1)) l0_0) = some r := h
  clear h
  obtain ⟨y534, hy534⟩ : ∃ y_ : List Int, y_ = (([] : List Int)) := ⟨_, rfl⟩
  replace H : (spec_l2Kids.l0 k a1 y534 (wrap64 (a1 + 1)) l0_0) = some r := by first | (rw [hy534]; with_reducible exact H) | (have H2_ := (Option.bind_some _ _).symm.trans H; rw [hy534]; with_reducible exact H2_) | (have H2_ := (Option.bind_some _ _).symm.trans H; with_reducible exact H2_) | with_reducible exact H | (rw [hy534]; exact H) | exact H
  have Ny534 := Aside0.mk hy534
  clear hy534
  have H' := Aside0.mk H
  clear H
  go_enter Try.func76, Try.ntmps76
  go_wp2_with (first | ((with_reducible refine gate_dst (N := 2) rfl ?_); refine box_event ?hg (N := 2) ?hd (cs := #[.slice A0_0 l0_0.length c0_0]) (t := 29) ?hr ?_; (case hd => rfl); (case hg => rfl); (case hr => first | (go_simp; done) | (go_simp; rfl)); intro gb533 hg w3 hbox hb; have n0_ := Aside0.mk (below_step (by repeat (first | (with_reducible first | exact HB.out | apply below_alloc | apply pw_below_drewN | apply below_drew1) | exact HB.out)) hb); have n1_ := Aside0.mk (hbox); have n2_ := Aside0.mk ((by rw [hg]; exact (below_size (by repeat (first | (with_reducible first | exact HB.out | apply below_alloc | apply pw_below_drewN | apply below_drew1) | exact HB.out))) : w.heap.size ≤ gb533)); have n3_ := Aside0.mk ((by rw [hg]; exact (below_size (by repeat (first | (with_reducible first | exact HB.out | apply below_alloc | apply pw_below_drewN | apply below_drew1) | exact HB.out))) : w.heap.size ≤ gb533)); clear HB; have HB := n0_; have BK533 := n1_; have GW533 := n2_; have GE533 := n3_; clear n0_ n1_ n2_ n3_; clear hb hbox hg) | ((with_reducible refine gate_dst (N := 7) rfl ?_); refine Kd.R_lit (Kd.int .i64) _ 3 ?hg (N := 7) ?hd (xs := ([] : List Int)) (inner := []) (ok := fun _ => True) (okp := fun _ => True) ?hr ?hp (fun _ hk => hk) trivial (Below.refl _ _) (Nat.le_refl _) (by simp) ?_; (case hd => rfl); (case hg => rfl); (case hr => first | (go_simp; done) | (go_simp; rfl)); (case hp => exact (Reps.none _ _)); intro v535 w4 ho5 hb hg_ hnew_; clear hg_ hnew_; (first | rw [← Ny534.out] at ho5 | (simp only [Int.reduceToNat] at ho5; rw [← Ny534.out] at ho5)); have n0_ := Aside0.mk (Kd.R_lower ho5 (below_size (by repeat (first | (with_reducible first | exact HB.out | apply below_alloc | apply pw_below_drewN | apply below_drew1 | refine below_set ?_ GE533.out) | exact HB.out)))); have n1_ := Aside0.mk (blk_below (g := gb533) (o := .cells #[.slice A0_0 l0_0.length c0_0] 29 (0, 0)) (by (with_reducible repeat (first | refine blk_drewN ?_ _ | refine blk_drew ?_ | refine blk_alloc ?_ _)); exact BK533.out) hb); have n2_ := Aside0.mk (below_step (by repeat (first | (with_reducible first | exact HB.out | apply below_alloc | apply pw_below_drewN | apply below_drew1 | refine below_set ?_ GE533.out) | exact HB.out)) hb); clear BK533; clear HB; have HO536 := n0_; have BK533 := n1_; have HB := n2_; clear n0_ n1_ n2_; clear hb ho5))
  go_loopg [5, 6] k (fun kq v5 v6 w' => ∃ (x5_1 : List Int) (x6_1 : Int), v6 = .int .i64 x6_1 ∧ Aside0 (spec_l2Kids.l0 kq a1 x5_1 x6_1 l0_0 = some r) ∧ Aside0 (kq ≤ k) ∧ Aside0 (Kd.R (Kd.int .i64) 3 w' w.heap.size (fun _ => True) v5 x5_1) ∧ Aside0 (w'.heap[gb533]? = some (.cells #[(.slice A0_0 l0_0.length c0_0)] 29 (0, 0))) ∧ Aside0 (Below w.heap.size w w'))
  case atStart => exact ⟨(y534), (wrap64 (a1 + 1)), (by first | rfl | (simp; done) | (simp [*]; done)), H', ⟨Nat.le_refl _⟩, ⟨by (with_reducible repeat (first | apply Kd.R_alloc | apply Kd.R_drewN | apply Kd.R_drew)); exact HO536.out⟩, ⟨by (with_reducible repeat (first | refine blk_drewN ?_ _ | refine blk_drew ?_ | refine blk_alloc ?_ _)); exact BK533.out⟩, ⟨by repeat (first | (with_reducible first | exact HB.out | apply below_alloc | apply pw_below_drewN | apply below_drew1 | refine below_set ?_ GE533.out) | exact HB.out)⟩⟩
  case round =>
    clear H'
    try clear p2
    obtain ⟨x5_1, x6_1, rfl, HA, HK1, HO_5, BK533, HB⟩ := hrel
    cases gk with
    | zero => exact absurd HA.out (by simp [spec_l2Kids.l0])
    | succ k1 =>
      have H := HA.out
      clear HA
      simp only [spec_l2Kids.l0] at H
      by_cases c6 : x6_1 < (l0_0.length : Int)
      · rw [if_pos c6] at H
        have c6b0 : decide (x6_1 < (l0_0.length : Int)) = true := decide_eq_true c6
        clear c6
        by_cases c7 : 0 ≤ x6_1
        · rw [if_pos c7] at H
          have c7b0 : decide (0 ≤ x6_1) = true := decide_eq_true c7
          clear c7
          by_cases c8 : ((rd_T79 l0_0 x6_1).f1) = a1
          · rw [if_pos c8] at H
            have c8b0 : (((rd_T79 l0_0 x6_1).f1) == a1) = true := beq_iff_eq.mpr c8
            have c8b1 : (((rd_T79 l0_0 x6_1).f1) != a1) = false := bne_eq_false_iff_eq.mpr c8
            clear c8
            by_cases c9 : x5_1.length < 17592186044416
            · rw [if_pos c9] at H
              have LMc9 := Aside0.mk c9
              clear c9
              obtain ⟨y538, hy538⟩ : ∃ y_ : List Int, y_ = (x5_1 ++ [x6_1]) := ⟨_, rfl⟩
              replace H : (spec_l2Kids.l0 k1 a1 y538 (wrap64 (x6_1 + 1)) l0_0) = some r := by first | (rw [hy538]; with_reducible exact H) | (have H2_ := (Option.bind_some _ _).symm.trans H; rw [hy538]; with_reducible exact H2_) | (have H2_ := (Option.bind_some _ _).symm.trans H; with_reducible exact H2_) | with_reducible exact H | (rw [hy538]; exact H) | exact H
              have Ny538 := Aside0.mk hy538
              clear hy538
              have H' := Aside0.mk H
              clear H
              have hcz10_0 : wr.cell? ⟨gb533, 0, none⟩ = some (.slice A0_0 l0_0.length c0_0) := (blk_cell BK533.out 0).trans rfl
              have hfz10_0 := blk_frozen BK533.out 0
              have p537 : 0 ≤ (x6_1 : Int) := of_decide_eq_true (by first | (with_reducible assumption) | assumption)
              have q537 : x6_1 < (l0_0.length : Int) := of_decide_eq_true (by first | (with_reducible assumption) | assumption)
              obtain ⟨ad537, e537, hx537_0, hx537_1, hx537_2⟩ := at_T79 HR0_0.out x6_1 p537 q537
              cases e537
              replace hx537_0 := (HB.out.cell (World.block_lt_of_cell? w _ hx537_0)).trans hx537_0
              replace hx537_1 := (HB.out.cell (World.block_lt_of_cell? w _ hx537_1)).trans hx537_1
              replace hx537_2 := (HB.out.cell (World.block_lt_of_cell? w _ hx537_2)).trans hx537_2
              replace p537 := eq_true p537
              replace q537 := eq_true q537
              go_wp2_with (first | ((with_reducible refine gate_builtin (b := .append) (xs := #[.tmp 25, .tmp 27]) rfl ?_); at_builtin; refine Kd.R_append (Kd.int .i64) (w0 := w) w.heap.size rfl (.tmp 25) (.tmp 27) 51 3 (.int .i64 0) 8 rfl Try.underlying51 info3 rfl (by decide) (by omega) u5 x5_1 x6_1 [.int .i64 x6_1] (fun _ => True) (fun _ => False) rfl rfl ?aP (fun _ hk => hk.elim) ?aF ?aO ?aB ?aS ?aL ?_; (case aP => exact rfl); (case aB => exact (by repeat (first | (with_reducible first | exact HB.out | apply below_alloc | apply pw_below_drewN | apply below_drew1 | refine below_set ?_ GE533.out) | exact HB.out))); (case aF => exact (fun _ _ => trivial)); (case aO => exact (by (with_reducible repeat (first | apply Kd.R_alloc | apply Kd.R_drewN | apply Kd.R_drew)); exact HO_5.out)); (case aS => exact (below_size (by repeat (first | (with_reducible first | exact HB.out | apply below_alloc | apply pw_below_drewN | apply below_drew1 | refine below_set ?_ GE533.out) | exact HB.out)))); (case aL => have := LMc9.out; omega); intro v539 w11 ho hb hg hat; rw [← Ny538.out] at ho; have n0_ := Aside0.mk (blk_grown (g := gb533) (o := .cells #[.slice (some ad537) l0_0.length c0_0] 29 (0, 0)) (by (with_reducible repeat (first | refine blk_drewN ?_ _ | refine blk_drew ?_ | refine blk_alloc ?_ _)); exact BK533.out) hg (Kd.R_ne HO_5.out BK533.out (by decide))); have n1_ := Aside0.mk (hb); have n2_ := Aside0.mk (ho); clear BK533; clear HB; clear HO_5; have BK533 := n0_; have HB := n1_; have HO540 := n2_; clear n0_ n1_ n2_; clear ho hb hg hat))
              go_roundg k1
              case measure => have := HK1.out; omega
              case rel => exact ⟨(y538), (wrap64 (x6_1 + 1)), (by first | rfl | (simp; done) | (simp [*]; done)), H', ⟨by have := HK1.out; omega⟩, ⟨by (with_reducible repeat (first | apply Kd.R_alloc | apply Kd.R_drewN | apply Kd.R_drew)); exact HO540.out⟩, ⟨by (with_reducible repeat (first | refine blk_drewN ?_ _ | refine blk_drew ?_ | refine blk_alloc ?_ _)); exact BK533.out⟩, ⟨by repeat (first | (with_reducible first | exact HB.out | apply below_alloc | apply pw_below_drewN | apply below_drew1 | refine below_set ?_ GE533.out) | exact HB.out)⟩⟩
            · rw [if_neg c9] at H
              exact absurd H (by simp)
          · rw [if_neg c8] at H
            have c8b0 : (((rd_T79 l0_0 x6_1).f1) == a1) = false := beq_eq_false_iff_ne.mpr c8
            have c8b1 : (((rd_T79 l0_0 x6_1).f1) != a1) = true := bne_iff_ne.mpr c8
            have H' := Aside0.mk H
            clear H
            have hcz12_0 : wr.cell? ⟨gb533, 0, none⟩ = some (.slice A0_0 l0_0.length c0_0) := (blk_cell BK533.out 0).trans rfl
            have hfz12_0 := blk_frozen BK533.out 0
            have p537 : 0 ≤ (x6_1 : Int) := of_decide_eq_true (by first | (with_reducible assumption) | assumption)
            have q537 : x6_1 < (l0_0.length : Int) := of_decide_eq_true (by first | (with_reducible assumption) | assumption)
            obtain ⟨ad537, e537, hx537_0, hx537_1, hx537_2⟩ := at_T79 HR0_0.out x6_1 p537 q537
            cases e537
            replace hx537_0 := (HB.out.cell (World.block_lt_of_cell? w _ hx537_0)).trans hx537_0
            replace hx537_1 := (HB.out.cell (World.block_lt_of_cell? w _ hx537_1)).trans hx537_1
            replace hx537_2 := (HB.out.cell (World.block_lt_of_cell? w _ hx537_2)).trans hx537_2
            replace p537 := eq_true p537
            replace q537 := eq_true q537
            go_wp2
            go_roundg k1
            case measure => have := HK1.out; omega
            case rel => exact ⟨(x5_1), (wrap64 (x6_1 + 1)), (by first | rfl | (simp; done) | (simp [*]; done)), H', ⟨by have := HK1.out; omega⟩, ⟨by (with_reducible repeat (first | apply Kd.R_alloc | apply Kd.R_drewN | apply Kd.R_drew)); exact HO_5.out⟩, ⟨by (with_reducible repeat (first | refine blk_drewN ?_ _ | refine blk_drew ?_ | refine blk_alloc ?_ _)); exact BK533.out⟩, ⟨by repeat (first | (with_reducible first | exact HB.out | apply below_alloc | apply pw_below_drewN | apply below_drew1 | refine below_set ?_ GE533.out) | exact HB.out)⟩⟩
        · rw [if_neg c7] at H
          exact absurd H (by simp)
      · rw [if_neg c6] at H
        have c6b0 : decide (x6_1 < (l0_0.length : Int)) = false := decide_eq_false c6
        clear c6
        obtain rfl := Option.some.inj H
        have hcz13_0 : wr.cell? ⟨gb533, 0, none⟩ = some (.slice A0_0 l0_0.length c0_0) := (blk_cell BK533.out 0).trans rfl
        have hfz13_0 := blk_frozen BK533.out 0
        go_wp2
        go_ret
        exact ⟨_, by first | rfl | (simp [errW_none, errW_some] <;> rfl) | (simp [*, errW_none, errW_some] <;> rfl), by (with_reducible repeat (first | apply Kd.R_alloc | apply Kd.R_drewN | apply Kd.R_drew)); exact HO_5.out, by repeat (first | (with_reducible first | exact HB.out | apply below_alloc | apply pw_below_drewN | apply below_drew1 | refine below_set ?_ GE533.out) | exact HB.out)⟩
end Go.Proofs.Ytimjfgicihdhbaa.Q
namespace Go.Proofs.Ytimjfgicihdhbaa.Q
open Go.RowKit Go.Proofs.YtimjfgicihdhbaaW.PrintWords Go.Proofs.YtimjfgicihdhbaaW.PrintLast
theorem node0 (ws : List ByteArray) : (rd_T79 (trieW ws) ((0 : Nat) : Int)).f1 = -1 := by
  rw [rd_trieW ws (prefW_pos ws)]
  have h := prefW_zero ws
  rw [show ((0 : Nat) : Int) = 0 from rfl, h]
  rfl
theorem par_lt {ws : List ByteArray} (ho : ∀ w ∈ ws, okWord w) {i : Nat} (hi : i < (prefW ws).length) : (rd_T79 (trieW ws) (i : Int)).f1 < (i : Int) := by
  by_cases h0 : 0 < i
  · rw [rd_trieW ws hi]
    obtain ⟨m, hm, _, e1, _, _, _⟩ := node_at ws ho h0 hi
    rw [e1]; omega
  · obtain rfl : i = 0 := by omega
    rw [node0]; omega
theorem par_at {ws : List ByteArray} (ho : ∀ w ∈ ws, okWord w) {i : Nat} (h0 : 0 < i) (hi : i < (prefW ws).length) : ∃ j c, j < i ∧ (rd_T79 (trieW ws) (i : Int)).f1 = (j : Int) ∧ (rd_T79 (trieW ws) (i : Int)).f0 = c ∧ 0 ≤ c ∧ c ≤ 25 ∧ rdOf ByteArray.empty (prefW ws) (i : Int) = rdOf ByteArray.empty (prefW ws) (j : Int) ++ letterW c := by
  rw [rd_trieW ws hi]
  obtain ⟨m, hm, _, e1, e2, e3, e4⟩ := node_at ws ho h0 hi
  exact ⟨m, _, hm, e1, rfl, e2, e3, e4.symm⟩
def kidsF (l : List IN) (a : Int) : List Nat → List Int
  | [] => []
  | i :: r => if (rd_T79 l (i : Int)).f1 = a then (i : Int) :: kidsF l a r else kidsF l a r
def kidsW (l : List IN) (a : Int) : List Int := kidsF l a (List.range' 0 l.length)
theorem kidsF_append (l : List IN) (a : Int) (x y : List Nat) : kidsF l a (x ++ y) = kidsF l a x ++ kidsF l a y := by
  induction x with
  | nil => rfl
  | cons i x ih => simp only [List.cons_append, kidsF, ih]; split <;> rfl
theorem kidsF_nil (l : List IN) (a : Int) : ∀ (x : List Nat), (∀ i ∈ x, (rd_T79 l (i : Int)).f1 ≠ a) → kidsF l a x = []
  | [], _ => rfl
  | i :: x, h => by
    simp only [kidsF]
    rw [if_neg (h i (List.mem_cons_self ..))]
    exact kidsF_nil l a x (fun j hj => h j (List.mem_cons_of_mem _ hj))
theorem kidsF_mem {l : List IN} {a : Int} : ∀ {r : List Nat} {x : Int}, x ∈ kidsF l a r → ∃ i ∈ r, x = (i : Int) ∧ (rd_T79 l (i : Int)).f1 = a
  | i :: r, x, h => by
    simp only [kidsF] at h
    split at h
    · rename_i hc
      rcases List.mem_cons.1 h with h | h
      · exact ⟨i, List.mem_cons_self .., h, hc⟩
      · obtain ⟨j, hj, e⟩ := kidsF_mem h
        exact ⟨j, List.mem_cons_of_mem _ hj, e⟩
    · obtain ⟨j, hj, e⟩ := kidsF_mem h
      exact ⟨j, List.mem_cons_of_mem _ hj, e⟩
theorem kidsF_asc {l : List IN} {a : Int} : ∀ {r : List Nat}, r.Pairwise (· < ·) → (kidsF l a r).Pairwise (· < ·)
  | [], _ => List.Pairwise.nil
  | i :: r, h => by
    obtain ⟨h1, h2⟩ := List.pairwise_cons.1 h
    have h3 := kidsF_asc (l := l) (a := a) h2
    simp only [kidsF]
    split
    · refine List.pairwise_cons.2 ⟨fun x hx => ?_, h3⟩
      obtain ⟨j, hj, e, _⟩ := kidsF_mem hx
      have := h1 j hj
      omega
    · exact h3
theorem kidsW_mem {ws : List ByteArray} (ho : ∀ w ∈ ws, okWord w) {a : Nat} {x : Int} (h : x ∈ kidsW (trieW ws) (a : Int)) : ∃ i c, x = ((i : Nat) : Int) ∧ a < i ∧ i < (prefW ws).length ∧ 0 ≤ c ∧ c ≤ 25 ∧ (rd_T79 (trieW ws) (i : Int)).f0 = c ∧ rdOf ByteArray.empty (prefW ws) (i : Int) = rdOf ByteArray.empty (prefW ws) (a : Int) ++ letterW c := by
  obtain ⟨i, hi, rfl, hp⟩ := kidsF_mem h
  have hi2 : i < (prefW ws).length := by
    have := List.mem_range'_1.1 hi
    rw [trieW_length] at this
    omega
  have hl := par_lt ho hi2
  rw [hp] at hl
  obtain ⟨j, c, hj, e1, e2, e3, e4, e5⟩ := par_at ho (by omega) hi2
  obtain rfl : j = a := by rw [e1] at hp; omega
  exact ⟨i, c, rfl, by omega, hi2, e3, e4, e2, e5⟩
end Go.Proofs.Ytimjfgicihdhbaa.Q
namespace Go.Proofs.Ytimjfgicihdhbaa.Q
open Go.RowKit Go.Proofs.YtimjfgicihdhbaaW.PrintWords Go.Proofs.YtimjfgicihdhbaaW.PrintLast Go.Proofs.YtimjfgicihdhbaaW.PrintMore
attribute [local go_sem] run_field_23 run_field_24 run_field_28 run_field_29 isSome_setCell max2_int min2_int max_two min_two max_three min_three max_four min_four   -- for this text's walks alone
set_option linter.unusedVariables false
set_option linter.unusedSimpArgs false
mutual
def spec_l2Text.j0 : Nat → Int → ByteArray → List Int → List (S79) → Option (ByteArray)
  | 0, _, _, _, _ => none
  | k + 1, x1, x5, x6, x542000 => if 0 ≤ x1 then (if x1 < (x542000.length : Int) then (if (rd_T79 x542000 x1).f2 = true then (if x5.size + 1 ≤ 9223372036854775807 then (spec_l2Text.j1 k (x5 ++ (⟨#[46]⟩ : ByteArray)) x6 x542000) else (none)) else (spec_l2Text.j1 k x5 x6 x542000)) else (none)) else (none)
def spec_l2Text.j1 : Nat → ByteArray → List Int → List (S79) → Option (ByteArray)
  | 0, _, _, _ => none
  | k + 1, x5, x6, x542000 => if (x6.length : Int) = 0 then (some x5) else (if x5.size + 1 ≤ 9223372036854775807 then (spec_l2Text.l0 k (x5 ++ (⟨#[40]⟩ : ByteArray)) x6 0 x542000) else (none))
def spec_l2Text.l0 : Nat → ByteArray → List Int → Int → List (S79) → Option (ByteArray)
  | 0, _, _, _, _ => none
  | k + 1, x5, x6, x7, x542000 => if x7 < (x6.length : Int) then (if 0 ≤ x7 then ((spec_l2Text.f k x542000 (rd x6 x7)).bind fun t551 => (if x5.size + t551.size ≤ 9223372036854775807 then (spec_l2Text.l0 k (x5 ++ t551) x6 (wrap64 (x7 + 1)) x542000) else (none))) else (none)) else (if x5.size + 1 ≤ 9223372036854775807 then (some (x5 ++ (⟨#[41]⟩ : ByteArray))) else (none))
def spec_l2Text.f : Nat → List (S79) → Int → Option (ByteArray)
  | 0, _, _ => none
  | k + 1, l0_0, a1 => (spec_l2Kids.f k l0_0 a1).bind fun t542 => (if a1 > 0 then (if 0 ≤ a1 then (if a1 < (l0_0.length : Int) then (spec_l2Text.j0 k a1 (strOfNums (([(wrap64 (97 + ((rd_T79 l0_0 a1).f0))) % 256] : List Int))) t542 l0_0) else (none)) else (none)) else (spec_l2Text.j0 k a1 (⟨#[]⟩ : ByteArray) t542 l0_0))
end
def spec_l2Text.T12 : Bool × List (List Nat × List Nat) := (true, [([], []), ([], []), ([], []), ([], []), ([2, 3], [2, 3]), ([4], [4]), ([1, 5], [1, 5]), ([0, 6], [0, 6]), ([7, 6, 0, 1, 2, 3, 4, 5, 6, 7], [0, 7])])
def spec_l2Text.B12 : List Nat := [0, 0, 0, 0, 12, 28, 62, 127, 255]
theorem spec_l2Text.tab12 : rtab .any (opsOf Try.f74 12) = spec_l2Text.T12 := by kernel_rfl
theorem spec_l2Text.bits12 : waitsOk spec_l2Text.T12.2 spec_l2Text.B12 = true := by kernel_rfl
set_option maxHeartbeats 8000000 in
set_option maxRecDepth 100000 in
theorem spec_l2Text.calls (k : Nat) : ∀ (A0_0 : Option Addr) (c0_0 : Nat) (l0_0 : List (S79)) (a1 : Int) (r : ByteArray) (w : World) (hr0_0 : Kd.C k79 w A0_0 l0_0.length l0_0) (hc0_0 : l0_0.length ≤ c0_0) (h : spec_l2Text.f k l0_0 a1 = some r),
    Calls Try.prog 74 #[.agg #[.slice A0_0 l0_0.length c0_0], .int .i64 a1] w fun e w' => e = .returned (.string r) ∧ Below w.heap.size w w' := by
  induction k using Nat.strongRecOn with
  | _ k ih =>
  intro A0_0 c0_0 l0_0 a1 r w hr0_0 hc0_0 h
  cases k with
  | zero => exact absurd h (by simp [spec_l2Text.f])
  | succ k =>
  simp only [spec_l2Text.f] at h
  have hu29 := Try.underlying29
  have HR0_0 := Aside0.mk hr0_0
  have HC0_0 := Aside0.mk hc0_0
  clear hr0_0 hc0_0
  have HB := Aside0.mk (Below.refl w.heap.size w)
  have H : ((spec_l2Kids.f k l0_0 a1).bind fun t542 => (if a1 > 0 then (if 0 ≤ a1 then (if a1 < (l0_0.length : Int) then (spec_l2Text.j0 k a1 (strOfNums (([(wrap64 (97 + ((rd_T79 l0_0 a1).f0))) % 256] : List Int))) t542 l0_0) else (none)) else (none)) else (spec_l2Text.j0 k a1 (⟨#[]⟩ : ByteArray) t542 l0_0))) = some r := h
  clear h
  replace H := Option.bind_eq_some_iff.mp H
  obtain ⟨t542, A30, H⟩ := H
  replace H : (if a1 > 0 then (if 0 ≤ a1 then (if a1 < (l0_0.length : Int) then (spec_l2Text.j0 k a1 (strOfNums (([(wrap64 (97 + ((rd_T79 l0_0 a1).f0))) % 256] : List Int))) t542 l0_0) else (none)) else (none)) else (spec_l2Text.j0 k a1 (⟨#[]⟩ : ByteArray) t542 l0_0)) = some r := H
  have A3 := Aside0.mk A30
  clear A30
  have HC4 := Aside0.mk H
  clear H
  go_enter Try.func74, Try.ntmps74
  go_upto_if 12 with (first | ((with_reducible refine gate_dst (N := 2) rfl ?_); refine box_event ?hg (N := 2) ?hd (cs := #[.slice A0_0 l0_0.length c0_0]) (t := 29) ?hr ?_; (case hd => rfl); (case hg => rfl); (case hr => first | (go_simp; done) | (go_simp; rfl)); intro gb541 hg w5 hbox hb; have n0_ := Aside0.mk (below_step (by repeat (first | (with_reducible first | exact HB.out | apply below_alloc | apply pw_below_drewN | apply below_drew1) | exact HB.out)) hb); have n1_ := Aside0.mk (hbox); have n2_ := Aside0.mk ((by rw [hg]; exact (below_size (by repeat (first | (with_reducible first | exact HB.out | apply below_alloc | apply pw_below_drewN | apply below_drew1) | exact HB.out))) : w.heap.size ≤ gb541)); have n3_ := Aside0.mk ((by rw [hg]; exact (below_size (by repeat (first | (with_reducible first | exact HB.out | apply below_alloc | apply pw_below_drewN | apply below_drew1) | exact HB.out))) : w.heap.size ≤ gb541)); clear HB; have HB := n0_; have BK541 := n1_; have GW541 := n2_; have GE541 := n3_; clear n0_ n1_ n2_ n3_; clear hb hbox hg; have hcz6_0 : w5.cell? ⟨gb541, 0, none⟩ = some (.slice A0_0 l0_0.length c0_0) := (blk_cell BK541.out 0).trans rfl; have hfz6_0 := blk_frozen BK541.out 0) | ((with_reducible refine gate_callee (f := 76) rfl ?_); refine goesL_ (some 10) rfl rfl Try.func76 (by kernel_rfl) rfl #[.agg #[.slice A0_0 l0_0.length c0_0], .int .i64 a1] rfl (by (try simp only [List.map_toArray, List.map_cons, List.map_nil]); first | done | rfl | (simp only [List.length_drop, List.length_take]; rfl)) ?_; (with_reducible refine (spec_l2Kids.calls k _ _ l0_0 a1 t542 _ ?side1 ?side2 A3.out).mono ?_); (case side1 => repeat (first | exact (Kd.C_below HR0_0.out HB.out) | (with_reducible refine Kd.C_alloc ?_ _) | (with_reducible refine Kd.C_drewN ?_ _) | (with_reducible refine Kd.C_drew ?_))); (case side2 => exact HC0_0.out); rintro e w7 ⟨v543, rfl, ho0, hb⟩; refine ⟨_, rfl, ?_⟩; have n0_ := Aside0.mk (Kd.R_lower ho0 (below_size (by repeat (first | (with_reducible first | exact HB.out | apply below_alloc | apply pw_below_drewN | apply below_drew1 | refine below_set ?_ GE541.out) | exact HB.out)))); have n1_ := Aside0.mk (blk_below (g := gb541) (o := .cells #[.slice A0_0 l0_0.length c0_0] 29 (0, 0)) (by (with_reducible repeat (first | refine blk_drewN ?_ _ | refine blk_drew ?_ | refine blk_alloc ?_ _)); exact BK541.out) hb); have n2_ := Aside0.mk (below_step (by repeat (first | (with_reducible first | exact HB.out | apply below_alloc | apply pw_below_drewN | apply below_drew1 | refine below_set ?_ GE541.out) | exact HB.out)) hb); clear BK541; clear HB; have HO544 := n0_; have BK541 := n1_; have HB := n2_; clear n0_ n1_ n2_; (try clear hb); (try clear hb2); (try clear hk); (try clear hi); (try clear ho0)))
  (try simp only [Act.put, List.setIfInBounds_toArray, List.set_cons_zero, List.set_cons_succ])
  go_cut [5] (fun v5 wc => ∃ (kq : Nat) (x5_3 : ByteArray), v5 = .string x5_3 ∧ Aside0 (spec_l2Text.j0 kq a1 x5_3 t542 l0_0 = some r) ∧ Aside0 (kq ≤ k) ∧ Aside0 (Kd.R (Kd.int .i64) 3 wc w.heap.size (fun _ => True) v543 t542) ∧ Aside0 (wc.heap[gb541]? = some (.cells #[(.slice A0_0 l0_0.length c0_0)] 29 (0, 0))) ∧ Aside0 (Below w.heap.size w wc))
  case first =>
    have H := HC4.out
    clear HC4
    by_cases c8 : a1 > 0
    · rw [if_pos c8] at H
      have c8b0 : decide (0 < a1) = true := decide_eq_true c8
      clear c8
      (first | rw [c8b0] | (simp only [i64_w, i32_w]; rw [c8b0]) | skip)
      by_cases c9 : 0 ≤ a1
      · rw [if_pos c9] at H
        have c9b0 : decide (0 ≤ a1) = true := decide_eq_true c9
        clear c9
        by_cases c10 : a1 < (l0_0.length : Int)
        · rw [if_pos c10] at H
          have c10b0 : decide (a1 < (l0_0.length : Int)) = true := decide_eq_true c10
          clear c10
          obtain ⟨y546, hy546⟩ : ∃ y_ : List Int, y_ = (([(wrap64 (97 + ((rd_T79 l0_0 a1).f0))) % 256] : List Int)) := ⟨_, rfl⟩
          replace H : (spec_l2Text.j0 k a1 (strOfNums y546) t542 l0_0) = some r := by first | (rw [hy546]; with_reducible exact H) | (have H2_ := (Option.bind_some _ _).symm.trans H; rw [hy546]; with_reducible exact H2_) | (have H2_ := (Option.bind_some _ _).symm.trans H; with_reducible exact H2_) | with_reducible exact H | (rw [hy546]; exact H) | exact H
          have Ny546 := Aside0.mk hy546
          clear hy546
          have H' := Aside0.mk H
          clear H
          have hcz11_0 : w7.cell? ⟨gb541, 0, none⟩ = some (.slice A0_0 l0_0.length c0_0) := (blk_cell BK541.out 0).trans rfl
          have hfz11_0 := blk_frozen BK541.out 0
          have p545 : 0 ≤ (a1 : Int) := of_decide_eq_true (by first | (with_reducible assumption) | assumption)
          have q545 : a1 < (l0_0.length : Int) := of_decide_eq_true (by first | (with_reducible assumption) | assumption)
          obtain ⟨ad545, e545, hx545_0, hx545_1, hx545_2⟩ := at_T79 HR0_0.out a1 p545 q545
          cases e545
          replace hx545_0 := (HB.out.cell (World.block_lt_of_cell? w _ hx545_0)).trans hx545_0
          replace hx545_1 := (HB.out.cell (World.block_lt_of_cell? w _ hx545_1)).trans hx545_1
          replace hx545_2 := (HB.out.cell (World.block_lt_of_cell? w _ hx545_2)).trans hx545_2
          replace p545 := eq_true p545
          replace q545 := eq_true q545
          go_wp2_with (first | ((with_reducible refine gate_dst (N := 21) rfl ?_); refine Kd.R_lit (Kd.int .u8) _ 5 ?hg (N := 21) ?hd (xs := ([(wrap64 (97 + ((rd_T79 l0_0 a1).f0))) % 256] : List Int)) (inner := [.int .u8 ((wrap64 (97 + ((rd_T79 l0_0 a1).f0))) % 256)]) (ok := fun _ => True) (okp := fun _ => True) ?hr ?hp (fun _ hk => hk) trivial (Below.refl _ _) (Nat.le_refl _) (by simp) ?_; (case hd => rfl); (case hg => rfl); (case hr => first | (go_simp; done) | (go_simp; rfl)); (case hp => exact (Reps.one (show Kd.M (Kd.int .u8) _ _ _ ((wrap64 (97 + ((rd_T79 l0_0 a1).f0))) % 256) [.int .u8 ((wrap64 (97 + ((rd_T79 l0_0 a1).f0))) % 256)] from rfl) (Reps.none _ _))); intro v547 w12 ho13 hb hg_ hnew_; clear hg_ hnew_; (first | rw [← Ny546.out] at ho13 | (simp only [Int.reduceToNat] at ho13; rw [← Ny546.out] at ho13)); have n0_ := Aside0.mk (Kd.R_below (by (with_reducible repeat (first | apply Kd.R_alloc | apply Kd.R_drewN | apply Kd.R_drew)); exact HO544.out) hb); have n1_ := Aside0.mk (Kd.R_lower ho13 (below_size (by repeat (first | (with_reducible first | exact HB.out | apply below_alloc | apply pw_below_drewN | apply below_drew1 | refine below_set ?_ GE541.out) | exact HB.out)))); have n2_ := Aside0.mk (blk_below (g := gb541) (o := .cells #[.slice (some ad545) l0_0.length c0_0] 29 (0, 0)) (by (with_reducible repeat (first | refine blk_drewN ?_ _ | refine blk_drew ?_ | refine blk_alloc ?_ _)); exact BK541.out) hb); have n3_ := Aside0.mk (below_step (by repeat (first | (with_reducible first | exact HB.out | apply below_alloc | apply pw_below_drewN | apply below_drew1 | refine below_set ?_ GE541.out) | exact HB.out)) hb); clear HO544; clear BK541; clear HB; have HO544 := n0_; have HO548 := n1_; have BK541 := n2_; have HB := n3_; clear n0_ n1_ n2_ n3_; clear hb ho13; have hcv14 := own_string (P := Try.prog) Try.underlying85 Try.underlying5 Try.underlying9 (Kd.own_of_R HO548.out)))
          go_meet
          case rel => exact ⟨_, (strOfNums y546), (by first | rfl | (simp; done) | (simp [*]; done)), H', ⟨by first | omega | exact Nat.le_refl _⟩, ⟨by (with_reducible repeat (first | apply Kd.R_alloc | apply Kd.R_drewN | apply Kd.R_drew)); exact HO544.out⟩, ⟨by (with_reducible repeat (first | refine blk_drewN ?_ _ | refine blk_drew ?_ | refine blk_alloc ?_ _)); exact BK541.out⟩, ⟨by repeat (first | (with_reducible first | exact HB.out | apply below_alloc | apply pw_below_drewN | apply below_drew1 | refine below_set ?_ GE541.out) | exact HB.out)⟩⟩
        · rw [if_neg c10] at H
          exact absurd H (by simp)
      · rw [if_neg c9] at H
        exact absurd H (by simp)
    · rw [if_neg c8] at H
      have c8b0 : decide (0 < a1) = false := decide_eq_false c8
      clear c8
      (first | rw [c8b0] | (simp only [i64_w, i32_w]; rw [c8b0]) | skip)
      have H' := Aside0.mk H
      clear H
      go_wp2
      go_meet
      case rel => exact ⟨_, ((⟨#[]⟩ : ByteArray)), (by first | rfl | (simp; done) | (simp [*]; done)), H', ⟨by first | omega | exact Nat.le_refl _⟩, ⟨by (with_reducible repeat (first | apply Kd.R_alloc | apply Kd.R_drewN | apply Kd.R_drew)); exact HO544.out⟩, ⟨by (with_reducible repeat (first | refine blk_drewN ?_ _ | refine blk_drew ?_ | refine blk_alloc ?_ _)); exact BK541.out⟩, ⟨by repeat (first | (with_reducible first | exact HB.out | apply below_alloc | apply pw_below_drewN | apply below_drew1 | refine below_set ?_ GE541.out) | exact HB.out)⟩⟩
  case rest =>
    clear HC4
    try clear c1
    try clear hcv1
    try clear p2
    try clear p5
    try clear q5
    try clear hx5
    try clear p6
    try clear c7
    try clear c8
    try clear c8b0
    try clear c9
    try clear c9b0
    try clear c10
    try clear c10b0
    try clear hcv14
    try clear hcz11_0
    try clear hcz6_0
    try clear hfz11_0
    try clear hfz6_0
    try clear hx545_0
    try clear hx545_1
    try clear hx545_2
    try clear p545
    try clear q545
    obtain ⟨kq, x5_3, rfl, HA, HJ3, HO_6, BK541, HB⟩ := hcut
    cases kq with
    | zero => exact absurd HA.out (by simp [spec_l2Text.j0])
    | succ kj3 =>
      have H := HA.out
      clear HA
      simp only [spec_l2Text.j0] at H
      by_cases c15 : 0 ≤ a1
      · rw [if_pos c15] at H
        have c15b0 : decide (0 ≤ a1) = true := decide_eq_true c15
        clear c15
        by_cases c16 : a1 < (l0_0.length : Int)
        · rw [if_pos c16] at H
          have c16b0 : decide (a1 < (l0_0.length : Int)) = true := decide_eq_true c16
          clear c16
          have HC17 := Aside0.mk H
          clear H
          have hcz18_0 : wc.cell? ⟨gb541, 0, none⟩ = some (.slice A0_0 l0_0.length c0_0) := (blk_cell BK541.out 0).trans rfl
          have hfz18_0 := blk_frozen BK541.out 0
          have p549 : 0 ≤ (a1 : Int) := of_decide_eq_true (by first | (with_reducible assumption) | assumption)
          have q549 : a1 < (l0_0.length : Int) := of_decide_eq_true (by first | (with_reducible assumption) | assumption)
          obtain ⟨ad549, e549, hx549_0, hx549_1, hx549_2⟩ := at_T79 HR0_0.out a1 p549 q549
          cases e549
          replace hx549_0 := (HB.out.cell (World.block_lt_of_cell? w _ hx549_0)).trans hx549_0
          replace hx549_1 := (HB.out.cell (World.block_lt_of_cell? w _ hx549_1)).trans hx549_1
          replace hx549_2 := (HB.out.cell (World.block_lt_of_cell? w _ hx549_2)).trans hx549_2
          replace p549 := eq_true p549
          replace q549 := eq_true q549
          go_upto_if 28 with (fail)
          go_cut [5] (fun v5 wc => ∃ (kq : Nat) (x5_16 : ByteArray), v5 = .string x5_16 ∧ Aside0 (spec_l2Text.j1 kq x5_16 t542 l0_0 = some r) ∧ Aside0 (kq ≤ kj3) ∧ Aside0 (Kd.R (Kd.int .i64) 3 wc w.heap.size (fun _ => True) v543 t542) ∧ Aside0 (wc.heap[gb541]? = some (.cells #[(.slice (some ad549) l0_0.length c0_0)] 29 (0, 0))) ∧ Aside0 (Below w.heap.size w wc))
          case first =>
            have H := HC17.out
            clear HC17
            obtain ⟨bq19, hbq19⟩ : ∃ b_ : Bool, b_ = ((rd_T79 l0_0 a1).f2) := ⟨_, rfl⟩
            replace H : (if bq19 = true then (if x5_3.size + 1 ≤ 9223372036854775807 then (spec_l2Text.j1 kj3 (x5_3 ++ (⟨#[46]⟩ : ByteArray)) t542 l0_0) else (none)) else (spec_l2Text.j1 kj3 x5_3 t542 l0_0)) = some r := by rw [← hbq19] at H; exact H
            have Nbq19 := Aside0.mk hbq19
            clear hbq19
            (try rw [← Nbq19.out])
            by_cases c20 : bq19 = true
            · subst c20
              have H1 : (if x5_3.size + 1 ≤ 9223372036854775807 then (spec_l2Text.j1 kj3 (x5_3 ++ (⟨#[46]⟩ : ByteArray)) t542 l0_0) else (none)) = some r := by rw [if_pos rfl] at H; exact H
              clear H
              have H := H1
              clear H1
              by_cases c21 : x5_3.size + 1 ≤ 9223372036854775807
              · rw [if_pos c21] at H
                have c21b0 := eq_true c21
                have c21b1 : decide (x5_3.size + 1 ≤ 9223372036854775807) = true := decide_eq_true c21
                try have c21b2 : (9223372036854775807 < x5_3.size + 1) = False := eq_false (Nat.not_lt.2 c21)
                have H' := Aside0.mk H
                clear H
                go_wp2
                go_meet
                case rel => exact ⟨_, (x5_3 ++ (⟨#[46]⟩ : ByteArray)), (by first | rfl | (simp; done) | (simp [*]; done)), H', ⟨by have := HJ3.out; first | omega | exact Nat.le_refl _⟩, ⟨by (with_reducible repeat (first | apply Kd.R_alloc | apply Kd.R_drewN | apply Kd.R_drew)); exact HO_6.out⟩, ⟨by (with_reducible repeat (first | refine blk_drewN ?_ _ | refine blk_drew ?_ | refine blk_alloc ?_ _)); exact BK541.out⟩, ⟨by repeat (first | (with_reducible first | exact HB.out | apply below_alloc | apply pw_below_drewN | apply below_drew1 | refine below_set ?_ GE541.out) | exact HB.out)⟩⟩
              · rw [if_neg c21] at H
                exact absurd H (by simp)
            · replace c20 := Bool.eq_false_iff.mpr c20
              subst c20
              have H1 : (spec_l2Text.j1 kj3 x5_3 t542 l0_0) = some r := by rw [if_neg (show ¬ (false = true) by decide)] at H; exact H
              clear H
              have H := H1
              clear H1
              have H' := Aside0.mk H
              clear H
              go_wp2
              go_meet
              case rel => exact ⟨_, (x5_3), (by first | rfl | (simp; done) | (simp [*]; done)), H', ⟨by have := HJ3.out; first | omega | exact Nat.le_refl _⟩, ⟨by (with_reducible repeat (first | apply Kd.R_alloc | apply Kd.R_drewN | apply Kd.R_drew)); exact HO_6.out⟩, ⟨by (with_reducible repeat (first | refine blk_drewN ?_ _ | refine blk_drew ?_ | refine blk_alloc ?_ _)); exact BK541.out⟩, ⟨by repeat (first | (with_reducible first | exact HB.out | apply below_alloc | apply pw_below_drewN | apply below_drew1 | refine below_set ?_ GE541.out) | exact HB.out)⟩⟩
          case rest =>
            clear HC17
            try clear c1
            try clear q1
            try clear hcv1
            try clear c2
            try clear p2
            try clear p5
            try clear q5
            try clear hx5
            try clear p6
            try clear c7
            try clear c8
            try clear c8b0
            try clear c9
            try clear c9b0
            try clear c10
            try clear c10b0
            try clear hcv14
            try clear c15
            try clear c15b0
            try clear c16
            try clear c16b0
            try clear q19
            try clear c20
            try clear c21
            try clear c21b0
            try clear c21b1
            try clear c21b2
            try clear hcz11_0
            try clear hcz18_0
            try clear hcz6_0
            try clear hfz11_0
            try clear hfz18_0
            try clear hfz6_0
            try clear hx545_0
            try clear hx545_1
            try clear hx545_2
            try clear hx549_0
            try clear hx549_1
            try clear hx549_2
            try clear p2
            try clear p5
            try clear p545
            try clear p549
            try clear p6
            try clear q5
            try clear q545
            try clear q549
            obtain ⟨kq, x5_16, rfl, HA, HJ16, HO_6, BK541, HB⟩ := hcut
            cases kq with
            | zero => exact absurd HA.out (by simp [spec_l2Text.j1])
            | succ kj16 =>
              have H := HA.out
              clear HA
              simp only [spec_l2Text.j1] at H
              by_cases c22 : (t542.length : Int) = 0
              · rw [if_pos c22] at H
                have c22b0 : ((t542.length : Int) == 0) = true := beq_iff_eq.mpr c22
                have c22b1 : ((t542.length : Int) != 0) = false := bne_eq_false_iff_eq.mpr c22
                clear c22
                obtain rfl := Option.some.inj H
                obtain ⟨Ao23, co23, eo23⟩ := Kd.R_slice HO_6.out
                subst eo23
                go_wp2
                go_ret
                exact ⟨by first | rfl | (simp [errW_none, errW_some] <;> rfl) | (simp [*, errW_none, errW_some] <;> rfl), by repeat (first | (with_reducible first | exact HB.out | apply below_alloc | apply pw_below_drewN | apply below_drew1 | refine below_set ?_ GE541.out) | exact HB.out)⟩
              · rw [if_neg c22] at H
                have c22b0 : ((t542.length : Int) == 0) = false := beq_eq_false_iff_ne.mpr c22
                have c22b1 : ((t542.length : Int) != 0) = true := bne_iff_ne.mpr c22
                have c22b2 : ¬ (t542 = []) := fun h_ => c22 (by rw [h_]; rfl)
                by_cases c24 : x5_16.size + 1 ≤ 9223372036854775807
                · rw [if_pos c24] at H
                  have c24b0 := eq_true c24
                  have c24b1 : decide (x5_16.size + 1 ≤ 9223372036854775807) = true := decide_eq_true c24
                  try have c24b2 : (9223372036854775807 < x5_16.size + 1) = False := eq_false (Nat.not_lt.2 c24)
                  have H' := Aside0.mk H
                  clear H
                  obtain ⟨Ao25, co25, eo25⟩ := Kd.R_slice HO_6.out
                  subst eo25
                  go_wp2
                  go_loopg [5, 7] kj16 (fun kq v5 v7 w' => ∃ (x5_3 : ByteArray) (x7_3 : Int), v5 = .string x5_3 ∧ v7 = .int .i64 x7_3 ∧ Aside0 (spec_l2Text.l0 kq x5_3 t542 x7_3 l0_0 = some r) ∧ Aside0 (kq ≤ kj16) ∧ Aside0 (Kd.R (Kd.int .i64) 3 w' w.heap.size (fun _ => True) (.slice Ao25 t542.length co25) t542) ∧ Aside0 (w'.heap[gb541]? = some (.cells #[(.slice (some ad549) l0_0.length c0_0)] 29 (0, 0))) ∧ Aside0 (Below w.heap.size w w'))
                  case atStart => exact ⟨(x5_16 ++ (⟨#[40]⟩ : ByteArray)), (0), (by first | rfl | (simp; done) | (simp [*]; done)), (by first | rfl | (simp; done) | (simp [*]; done)), H', ⟨Nat.le_refl _⟩, ⟨by (with_reducible repeat (first | apply Kd.R_alloc | apply Kd.R_drewN | apply Kd.R_drew)); exact HO_6.out⟩, ⟨by (with_reducible repeat (first | refine blk_drewN ?_ _ | refine blk_drew ?_ | refine blk_alloc ?_ _)); exact BK541.out⟩, ⟨by repeat (first | (with_reducible first | exact HB.out | apply below_alloc | apply pw_below_drewN | apply below_drew1 | refine below_set ?_ GE541.out) | exact HB.out)⟩⟩
                  case round =>
                    clear H'
                    try clear c1
                    try clear q1
                    try clear hcv1
                    try clear c2
                    try clear p2
                    try clear p5
                    try clear q5
                    try clear hx5
                    try clear p6
                    try clear c7
                    try clear c8
                    try clear c8b0
                    try clear c9
                    try clear c9b0
                    try clear c10
                    try clear c10b0
                    try clear hcv14
                    try clear c15
                    try clear c15b0
                    try clear c16
                    try clear c16b0
                    try clear q19
                    try clear c20
                    try clear c21
                    try clear c21b0
                    try clear c21b1
                    try clear c21b2
                    try clear c22
                    try clear c22b0
                    try clear c22b1
                    try clear c22b2
                    try clear c24
                    try clear c24b0
                    try clear c24b1
                    try clear c24b2
                    try clear hcz11_0
                    try clear hcz18_0
                    try clear hcz6_0
                    try clear hfz11_0
                    try clear hfz18_0
                    try clear hfz6_0
                    try clear hx545_0
                    try clear hx545_1
                    try clear hx545_2
                    try clear hx549_0
                    try clear hx549_1
                    try clear hx549_2
                    try clear p2
                    try clear p5
                    try clear p545
                    try clear p549
                    try clear p6
                    try clear q1
                    try clear q19
                    try clear q5
                    try clear q545
                    try clear q549
                    obtain ⟨x5_3, x7_3, rfl, rfl, HA, HK3, HO_6, BK541, HB⟩ := hrel
                    cases gk with
                    | zero => exact absurd HA.out (by simp [spec_l2Text.l0])
                    | succ k3 =>
                      have H := HA.out
                      clear HA
                      simp only [spec_l2Text.l0] at H
                      by_cases c26 : x7_3 < (t542.length : Int)
                      · rw [if_pos c26] at H
                        have c26b0 : decide (x7_3 < (t542.length : Int)) = true := decide_eq_true c26
                        clear c26
                        by_cases c27 : 0 ≤ x7_3
                        · rw [if_pos c27] at H
                          have c27b0 : decide (0 ≤ x7_3) = true := decide_eq_true c27
                          clear c27
                          replace H := Option.bind_eq_some_iff.mp H
                          obtain ⟨t551, A280, H⟩ := H
                          replace H : (if x5_3.size + t551.size ≤ 9223372036854775807 then (spec_l2Text.l0 k3 (x5_3 ++ t551) t542 (wrap64 (x7_3 + 1)) l0_0) else (none)) = some r := H
                          have A28 := Aside0.mk A280
                          clear A280
                          by_cases c29 : x5_3.size + t551.size ≤ 9223372036854775807
                          · rw [if_pos c29] at H
                            have c29b0 := eq_true c29
                            have c29b1 : decide (x5_3.size + t551.size ≤ 9223372036854775807) = true := decide_eq_true c29
                            try have c29b2 : (9223372036854775807 < x5_3.size + t551.size) = False := eq_false (Nat.not_lt.2 c29)
                            have H' := Aside0.mk H
                            clear H
                            try go_wp2
                            have n0_ := Aside0.mk (Kd.R_drew HO_6.out)
                            have n1_ := Aside0.mk (blk_drew BK541.out)
                            have n2_ := Aside0.mk (below_drew1 HB.out)
                            clear HO_6
                            clear BK541
                            clear HB
                            have HO_6 := n0_
                            have BK541 := n1_
                            have HB := n2_
                            clear n0_ n1_ n2_
                            have p550 : 0 ≤ (x7_3 : Int) := of_decide_eq_true (by first | (with_reducible assumption) | assumption)
                            have q550 : x7_3 < (t542.length : Int) := of_decide_eq_true (by first | (with_reducible assumption) | assumption)
                            obtain ⟨ad550, e550, hx550_0⟩ := Kd.at_int (Kd.R_reads' HO_6.out).2.2 x7_3 p550 q550
                            cases e550
                            replace p550 := eq_true p550
                            replace q550 := eq_true q550
                            refine start_ (n := 9) (S := fun w' => w'.cell? ⟨gb541, 0, none⟩ = some (.slice (some ad549) l0_0.length c0_0) ∧ w'.cell? (ad550.add (x7_3).toNat) = some (.int .i64 (rd t542 x7_3))) (ds := []) #[false, false, false, false, false, false, false, false, false] (by kernel_rfl) rfl rfl ⟨(blk_cell BK541.out 0).trans rfl, hx550_0⟩ (fun hHeld => ?_); refine with_tabW spec_l2Text.tab12 spec_l2Text.bits12 (fun HT_ HW_ => ?_)
                            generalize wr.drew = w30 at HO_6 BK541 HB hx550_0 hHeld ⊢
                            refine pure_ (i := 0) (N := some 43) (v := ?_) (a' := ?_) #[true, false, false, false, false, false, false, false, false] rfl rfl (any_of HT_.out (by kernel_rfl)) (fun _ _ _ h => h) (Or.inl ⟨by rfl, ?_⟩) ?_ ?_
                            rotate_left
                            · intro w'
                              go_simp
                              with_reducible rfl
                            rotate_left
                            · simp only [Act.put, List.setIfInBounds_toArray, List.set_cons_zero, List.set_cons_succ, i64_w, i32_w]
                              rfl
                            refine pure_ (i := 2) (N := some 45) (v := ?_) (a' := ?_) #[true, false, true, false, false, false, false, false, false] rfl rfl (any_of HT_.out (by kernel_rfl)) (fun _ _ _ h => h) (Or.inl ⟨by rfl, ?_⟩) ?_ ?_
                            rotate_left
                            · intro w'
                              go_simp
                              with_reducible rfl
                            rotate_left
                            · simp only [Act.put, List.setIfInBounds_toArray, List.set_cons_zero, List.set_cons_succ, i64_w, i32_w]
                              rfl
                            refine pure_ (i := 3) (N := some 46) (v := ?_) (a' := ?_) #[true, false, true, true, false, false, false, false, false] rfl rfl (any_of HT_.out (by kernel_rfl)) (fun _ _ _ h => h) (Or.inl ⟨by rfl, ?_⟩) ?_ ?_
                            rotate_left
                            · intro w'
                              go_simp
                              with_reducible rfl
                            rotate_left
                            · simp only [Act.put, List.setIfInBounds_toArray, List.set_cons_zero, List.set_cons_succ, i64_w, i32_w]
                              rfl
                            refine pure_ (i := 4) (N := some 47) (v := ?_) (a' := ?_) #[true, false, true, true, true, false, false, false, false] rfl rfl (any_of HT_.out (by kernel_rfl)) (fun _ _ _ h => h) (Or.inl ⟨by rfl, ?_⟩) ?_ ?_
                            rotate_left
                            · intro w'
                              go_simp
                              with_reducible rfl
                            rotate_left
                            · simp only [Act.put, List.setIfInBounds_toArray, List.set_cons_zero, List.set_cons_succ, i64_w, i32_w]
                              rfl
                            refine take_ (i := 1) (N := some 44) (v := ?_) (a' := ?_) #[true, true, true, true, true, false, false, false, false] rfl rfl (take_ofW HT_.out HW_.out (by kernel_rfl)) (fun _ _ _ h => h) (Or.inl ⟨by rfl, ?_⟩) hHeld ?_ ?_
                            rotate_left
                            · rintro w' ⟨s0, s1⟩
                              go_simp
                              with_reducible rfl
                            rotate_left
                            · simp only [Act.put, List.setIfInBounds_toArray, List.set_cons_zero, List.set_cons_succ, i64_w, i32_w]
                              rfl
                            refine take_ (i := 5) (N := some 48) (v := ?_) (a' := ?_) #[true, true, true, true, true, true, false, false, false] rfl rfl (take_ofW HT_.out HW_.out (by kernel_rfl)) (fun _ _ _ h => h) (Or.inl ⟨by rfl, ?_⟩) hHeld ?_ ?_
                            rotate_left
                            · rintro w' ⟨s0, s1⟩
                              go_simp
                              with_reducible rfl
                            rotate_left
                            · simp only [Act.put, List.setIfInBounds_toArray, List.set_cons_zero, List.set_cons_succ, i64_w, i32_w]
                              rfl
                            refine one_ (i := 6) (N := some 49) #[true, true, true, true, true, true, true, false, false] rfl rfl (one_of HT_.out (by kernel_rfl)) (by decide) (fun K hK => ?_)
                            refine goes_ Try.func74 (by kernel_rfl) rfl #[.agg #[.slice (some ad549) l0_0.length c0_0], .int .i64 (rd t542 x7_3)] (by rfl) rfl rfl (by (try simp only [List.map_toArray, List.map_cons, List.map_nil]); first | done | rfl | (simp only [List.length_drop, List.length_take]; rfl)) ?_
                            with_reducible refine (ih k3 (by have := HJ3.out; have := HJ16.out; have := HK3.out; omega) _ _ l0_0 (rd t542 x7_3) t551 _ ?side1 ?side2 A28.out).mono ?_
                            (case side1 => repeat (first | exact (Kd.C_below HR0_0.out HB.out) | (with_reducible refine Kd.C_alloc ?_ _) | (with_reducible refine Kd.C_drewN ?_ _) | (with_reducible refine Kd.C_drew ?_)))
                            (case side2 => exact HC0_0.out)
                            rintro e w31 ⟨rfl, hb⟩
                            have HS1_ := (hb.cell (World.block_lt_of_cell? _ _ (hHeld.2))).trans (hHeld.2)
                            refine ⟨_, rfl, ?_⟩
                            have n0_ := Aside0.mk (Kd.R_below (by (with_reducible repeat (first | apply Kd.R_alloc | apply Kd.R_drewN | apply Kd.R_drew)); exact HO_6.out) hb)
                            have n1_ := Aside0.mk (blk_below (g := gb541) (o := .cells #[.slice (some ad549) l0_0.length c0_0] 29 (0, 0)) (by (with_reducible repeat (first | refine blk_drewN ?_ _ | refine blk_drew ?_ | refine blk_alloc ?_ _)); exact BK541.out) hb)
                            have n2_ := Aside0.mk (below_step (by repeat (first | (with_reducible first | exact HB.out | apply below_alloc | apply pw_below_drewN | apply below_drew1 | refine below_set ?_ GE541.out) | exact HB.out)) hb)
                            clear HO_6
                            clear BK541
                            clear HB
                            have HO_6 := n0_
                            have BK541 := n1_
                            have HB := n2_
                            clear n0_ n1_ n2_
                            (try clear hb)
                            (try clear hb2)
                            (try clear hk)
                            (try clear hi)
                            refine hK.out _ _ ⟨(blk_cell BK541.out 0).trans rfl, HS1_⟩ (fun hHeld => ?_)
                            clear hK K
                            refine norm_ (a' := ?_) ?_ ?_
                            rotate_left
                            · show Act.put _ (some 49) _ = _
                              simp only [Act.put, List.setIfInBounds_toArray, List.set_cons_zero, List.set_cons_succ, i64_w, i32_w]
                              rfl
                            refine pure_ (i := 7) (N := some 50) (v := ?_) (a' := ?_) #[true, true, true, true, true, true, true, true, false] rfl rfl (any_of HT_.out (by kernel_rfl)) (fun _ _ _ h => h) (Or.inl ⟨by rfl, ?_⟩) ?_ ?_
                            rotate_left
                            · intro w'
                              go_simp
                              with_reducible rfl
                            rotate_left
                            · simp only [Act.put, List.setIfInBounds_toArray, List.set_cons_zero, List.set_cons_succ, i64_w, i32_w]
                              rfl
                            refine pure_ (i := 8) (N := some 5) (v := ?_) (a' := ?_) #[true, true, true, true, true, true, true, true, true] rfl rfl (any_of HT_.out (by kernel_rfl)) (fun _ _ _ h => h) (Or.inl ⟨by rfl, ?_⟩) ?_ ?_
                            rotate_left
                            · intro w'
                              go_simp
                              with_reducible rfl
                            rotate_left
                            · simp only [Act.put, List.setIfInBounds_toArray, List.set_cons_zero, List.set_cons_succ, i64_w, i32_w]
                              rfl
                            refine done_ (done_of HT_.out (by kernel_rfl)) ?_
                            try go_wp2
                            go_roundg k3
                            case measure => have := HJ3.out; have := HJ16.out; have := HK3.out; omega
                            case rel => exact ⟨(x5_3 ++ t551), (wrap64 (x7_3 + 1)), (by first | rfl | (simp; done) | (simp [*]; done)), (by first | rfl | (simp; done) | (simp [*]; done)), H', ⟨by have := HJ3.out; have := HJ16.out; have := HK3.out; omega⟩, ⟨by (with_reducible repeat (first | apply Kd.R_alloc | apply Kd.R_drewN | apply Kd.R_drew)); exact HO_6.out⟩, ⟨by (with_reducible repeat (first | refine blk_drewN ?_ _ | refine blk_drew ?_ | refine blk_alloc ?_ _)); exact BK541.out⟩, ⟨by repeat (first | (with_reducible first | exact HB.out | apply below_alloc | apply pw_below_drewN | apply below_drew1 | refine below_set ?_ GE541.out) | exact HB.out)⟩⟩
                          · rw [if_neg c29] at H
                            exact absurd H (by simp)
                        · rw [if_neg c27] at H
                          exact absurd H (by simp)
                      · rw [if_neg c26] at H
                        have c26b0 : decide (x7_3 < (t542.length : Int)) = false := decide_eq_false c26
                        clear c26
                        by_cases c32 : x5_3.size + 1 ≤ 9223372036854775807
                        · rw [if_pos c32] at H
                          have c32b0 := eq_true c32
                          have c32b1 : decide (x5_3.size + 1 ≤ 9223372036854775807) = true := decide_eq_true c32
                          try have c32b2 : (9223372036854775807 < x5_3.size + 1) = False := eq_false (Nat.not_lt.2 c32)
                          obtain rfl := Option.some.inj H
                          go_wp2
                          go_ret
                          exact ⟨by first | rfl | (simp [errW_none, errW_some] <;> rfl) | (simp [*, errW_none, errW_some] <;> rfl), by repeat (first | (with_reducible first | exact HB.out | apply below_alloc | apply pw_below_drewN | apply below_drew1 | refine below_set ?_ GE541.out) | exact HB.out)⟩
                        · rw [if_neg c32] at H
                          exact absurd H (by simp)
                · rw [if_neg c24] at H
                  exact absurd H (by simp)
        · rw [if_neg c16] at H
          exact absurd H (by simp)
      · rw [if_neg c15] at H
        exact absurd H (by simp)
def spec_TrieText.f (k : Nat) (l0_0 : List (S79)) : Option (ByteArray × Bool) := (spec_l2Trie.f k l0_0).bind fun t553 => (if t553 = true then ((spec_l2Text.f k l0_0 0).bind fun t554 => (some (t554, true))) else (some ((⟨#[]⟩ : ByteArray), false)))
set_option maxHeartbeats 8000000 in
set_option maxRecDepth 100000 in
theorem spec_TrieText.calls (k : Nat) (A0_0 : Option Addr) (c0_0 : Nat) (l0_0 : List (S79)) (r1 : ByteArray) (r2 : Bool) (w : World) (hr0_0 : Kd.C k79 w A0_0 l0_0.length l0_0) (hc0_0 : l0_0.length ≤ c0_0) (h : spec_TrieText.f k l0_0 = some (r1, r2)) :
    Calls Try.prog 36 #[.agg #[.slice A0_0 l0_0.length c0_0]] w fun e w' => e = .returned (.tuple #[.string r1, .bool r2]) ∧ Below w.heap.size w w' := by
  have hu29 := Try.underlying29
  have HR0_0 := Aside0.mk hr0_0
  have HC0_0 := Aside0.mk hc0_0
  clear hr0_0 hc0_0
  have HB := Aside0.mk (Below.refl w.heap.size w)
  have H : ((spec_l2Trie.f k l0_0).bind fun t553 => (if t553 = true then ((spec_l2Text.f k l0_0 0).bind fun t554 => (some (t554, true))) else (some ((⟨#[]⟩ : ByteArray), false)))) = some (r1, r2) := h
  clear h
  replace H := Option.bind_eq_some_iff.mp H
  obtain ⟨t553, A20, H⟩ := H
  replace H : (if t553 = true then ((spec_l2Text.f k l0_0 0).bind fun t554 => (some (t554, true))) else (some ((⟨#[]⟩ : ByteArray), false))) = some (r1, r2) := H
  have A2 := Aside0.mk A20
  clear A20
  by_cases c3 : t553 = true
  · subst c3
    have H1 : ((spec_l2Text.f k l0_0 0).bind fun t554 => (some (t554, true))) = some (r1, r2) := by rw [if_pos rfl] at H; exact H
    clear H
    have H := H1
    clear H1
    replace H := Option.bind_eq_some_iff.mp H
    obtain ⟨t554, A40, H⟩ := H
    replace H : (some (t554, true)) = some (r1, r2) := H
    have A4 := Aside0.mk A40
    clear A40
    simp only [Option.some.injEq, Prod.mk.injEq] at H
    obtain ⟨rfl, rfl⟩ := H
    go_enter Try.func36, Try.ntmps36
    go_wp2_with (first | ((with_reducible refine gate_dst (N := 1) rfl ?_); refine box_event ?hg (N := 1) ?hd (cs := #[.slice A0_0 l0_0.length c0_0]) (t := 29) ?hr ?_; (case hd => rfl); (case hg => rfl); (case hr => first | (go_simp; done) | (go_simp; rfl)); intro gb552 hg w5 hbox hb; have n0_ := Aside0.mk (below_step (by repeat (first | (with_reducible first | exact HB.out | apply below_alloc | apply pw_below_drewN | apply below_drew1) | exact HB.out)) hb); have n1_ := Aside0.mk (hbox); have n2_ := Aside0.mk ((by rw [hg]; exact (below_size (by repeat (first | (with_reducible first | exact HB.out | apply below_alloc | apply pw_below_drewN | apply below_drew1) | exact HB.out))) : w.heap.size ≤ gb552)); have n3_ := Aside0.mk ((by rw [hg]; exact (below_size (by repeat (first | (with_reducible first | exact HB.out | apply below_alloc | apply pw_below_drewN | apply below_drew1) | exact HB.out))) : w.heap.size ≤ gb552)); clear HB; have HB := n0_; have BK552 := n1_; have GW552 := n2_; have GE552 := n3_; clear n0_ n1_ n2_ n3_; clear hb hbox hg; have hcz6_0 : w5.cell? ⟨gb552, 0, none⟩ = some (.slice A0_0 l0_0.length c0_0) := (blk_cell BK552.out 0).trans rfl; have hfz6_0 := blk_frozen BK552.out 0) | ((with_reducible refine gate_callee (f := 51) rfl ?_); refine goesL_ (some 5) rfl rfl Try.func51 (by kernel_rfl) rfl #[.agg #[.slice A0_0 l0_0.length c0_0]] rfl (by (try simp only [List.map_toArray, List.map_cons, List.map_nil]); first | done | rfl | (simp only [List.length_drop, List.length_take]; rfl)) ?_; (with_reducible refine (spec_l2Trie.calls k _ _ l0_0 true _ ?side1 ?side2 A2.out).mono ?_); (case side1 => repeat (first | exact (Kd.C_below HR0_0.out HB.out) | (with_reducible refine Kd.C_alloc ?_ _) | (with_reducible refine Kd.C_drewN ?_ _) | (with_reducible refine Kd.C_drew ?_))); (case side2 => exact HC0_0.out); rintro e w7 ⟨rfl, hb⟩; refine ⟨_, rfl, ?_⟩; have n0_ := Aside0.mk (blk_below (g := gb552) (o := .cells #[.slice A0_0 l0_0.length c0_0] 29 (0, 0)) (by (with_reducible repeat (first | refine blk_drewN ?_ _ | refine blk_drew ?_ | refine blk_alloc ?_ _)); exact BK552.out) hb); have n1_ := Aside0.mk (below_step (by repeat (first | (with_reducible first | exact HB.out | apply below_alloc | apply pw_below_drewN | apply below_drew1 | refine below_set ?_ GE552.out) | exact HB.out)) hb); clear BK552; clear HB; have BK552 := n0_; have HB := n1_; clear n0_ n1_; (try clear hb); (try clear hb2); (try clear hk); (try clear hi); have hcz8_0 : w7.cell? ⟨gb552, 0, none⟩ = some (.slice A0_0 l0_0.length c0_0) := (blk_cell BK552.out 0).trans rfl; have hfz8_0 := blk_frozen BK552.out 0) | ((with_reducible refine gate_callee (f := 74) rfl ?_); refine goesL_ (some 8) rfl rfl Try.func74 (by kernel_rfl) rfl #[.agg #[.slice A0_0 l0_0.length c0_0], .int .i64 0] rfl (by (try simp only [List.map_toArray, List.map_cons, List.map_nil]); first | done | rfl | (simp only [List.length_drop, List.length_take]; rfl)) ?_; (with_reducible refine (spec_l2Text.calls k _ _ l0_0 0 t554 _ ?side1 ?side2 A4.out).mono ?_); (case side1 => repeat (first | exact (Kd.C_below HR0_0.out HB.out) | (with_reducible refine Kd.C_alloc ?_ _) | (with_reducible refine Kd.C_drewN ?_ _) | (with_reducible refine Kd.C_drew ?_))); (case side2 => exact HC0_0.out); rintro e w9 ⟨rfl, hb⟩; refine ⟨_, rfl, ?_⟩; have n0_ := Aside0.mk (blk_below (g := gb552) (o := .cells #[.slice A0_0 l0_0.length c0_0] 29 (0, 0)) (by (with_reducible repeat (first | refine blk_drewN ?_ _ | refine blk_drew ?_ | refine blk_alloc ?_ _)); exact BK552.out) hb); have n1_ := Aside0.mk (below_step (by repeat (first | (with_reducible first | exact HB.out | apply below_alloc | apply pw_below_drewN | apply below_drew1 | refine below_set ?_ GE552.out) | exact HB.out)) hb); clear BK552; clear HB; have BK552 := n0_; have HB := n1_; clear n0_ n1_; (try clear hb); (try clear hb2); (try clear hk); (try clear hi)))
    go_ret2
    exact ⟨by first | rfl | (simp [errW_none, errW_some] <;> rfl) | (simp [*, errW_none, errW_some] <;> rfl), by repeat (first | (with_reducible first | exact HB.out | apply below_alloc | apply pw_below_drewN | apply below_drew1 | refine below_set ?_ GE552.out) | exact HB.out)⟩
  · replace c3 := Bool.eq_false_iff.mpr c3
    subst c3
    have H1 : (some ((⟨#[]⟩ : ByteArray), false)) = some (r1, r2) := by rw [if_neg (show ¬ (false = true) by decide)] at H; exact H
    clear H
    have H := H1
    clear H1
    simp only [Option.some.injEq, Prod.mk.injEq] at H
    obtain ⟨rfl, rfl⟩ := H
    go_enter Try.func36, Try.ntmps36
    go_wp2_with (first | ((with_reducible refine gate_dst (N := 1) rfl ?_); refine box_event ?hg (N := 1) ?hd (cs := #[.slice A0_0 l0_0.length c0_0]) (t := 29) ?hr ?_; (case hd => rfl); (case hg => rfl); (case hr => first | (go_simp; done) | (go_simp; rfl)); intro gb552 hg w10 hbox hb; have n0_ := Aside0.mk (below_step (by repeat (first | (with_reducible first | exact HB.out | apply below_alloc | apply pw_below_drewN | apply below_drew1) | exact HB.out)) hb); have n1_ := Aside0.mk (hbox); have n2_ := Aside0.mk ((by rw [hg]; exact (below_size (by repeat (first | (with_reducible first | exact HB.out | apply below_alloc | apply pw_below_drewN | apply below_drew1) | exact HB.out))) : w.heap.size ≤ gb552)); have n3_ := Aside0.mk ((by rw [hg]; exact (below_size (by repeat (first | (with_reducible first | exact HB.out | apply below_alloc | apply pw_below_drewN | apply below_drew1) | exact HB.out))) : w.heap.size ≤ gb552)); clear HB; have HB := n0_; have BK552 := n1_; have GW552 := n2_; have GE552 := n3_; clear n0_ n1_ n2_ n3_; clear hb hbox hg; have hcz11_0 : w10.cell? ⟨gb552, 0, none⟩ = some (.slice A0_0 l0_0.length c0_0) := (blk_cell BK552.out 0).trans rfl; have hfz11_0 := blk_frozen BK552.out 0) | ((with_reducible refine gate_callee (f := 51) rfl ?_); refine goesL_ (some 5) rfl rfl Try.func51 (by kernel_rfl) rfl #[.agg #[.slice A0_0 l0_0.length c0_0]] rfl (by (try simp only [List.map_toArray, List.map_cons, List.map_nil]); first | done | rfl | (simp only [List.length_drop, List.length_take]; rfl)) ?_; (with_reducible refine (spec_l2Trie.calls k _ _ l0_0 false _ ?side1 ?side2 A2.out).mono ?_); (case side1 => repeat (first | exact (Kd.C_below HR0_0.out HB.out) | (with_reducible refine Kd.C_alloc ?_ _) | (with_reducible refine Kd.C_drewN ?_ _) | (with_reducible refine Kd.C_drew ?_))); (case side2 => exact HC0_0.out); rintro e w12 ⟨rfl, hb⟩; refine ⟨_, rfl, ?_⟩; have n0_ := Aside0.mk (blk_below (g := gb552) (o := .cells #[.slice A0_0 l0_0.length c0_0] 29 (0, 0)) (by (with_reducible repeat (first | refine blk_drewN ?_ _ | refine blk_drew ?_ | refine blk_alloc ?_ _)); exact BK552.out) hb); have n1_ := Aside0.mk (below_step (by repeat (first | (with_reducible first | exact HB.out | apply below_alloc | apply pw_below_drewN | apply below_drew1 | refine below_set ?_ GE552.out) | exact HB.out)) hb); clear BK552; clear HB; have BK552 := n0_; have HB := n1_; clear n0_ n1_; (try clear hb); (try clear hb2); (try clear hk); (try clear hi)))
    go_ret2
    exact ⟨by first | rfl | (simp [errW_none, errW_some] <;> rfl) | (simp [*, errW_none, errW_some] <;> rfl), by repeat (first | (with_reducible first | exact HB.out | apply below_alloc | apply pw_below_drewN | apply below_drew1 | refine below_set ?_ GE552.out) | exact HB.out)⟩
def impl_Trie_kids.l0 : Nat → Int → List Int → List (S79) → Int → Int → Option (List Int)
  | 0, _, _, _, _, _ => none
  | k + 1, x1, x5, x10, x11, x12 => if x12 < x11 then (if 0 ≤ x12 then (if x12 < (x10.length : Int) then (if ((rd_T79 x10 x12).f1) = x1 then (if x5.length < 17592186044416 then (impl_Trie_kids.l0 k x1 (x5 ++ [x12]) x10 x11 (wrap64 (x12 + 1))) else (none)) else (impl_Trie_kids.l0 k x1 x5 x10 x11 (wrap64 (x12 + 1)))) else (none)) else (none)) else (some x5)
def impl_Trie_kids.f (k : Nat) (l0_0 : List (S79)) (a1 : Int) : Option (List Int) := impl_Trie_kids.l0 k a1 (([] : List Int)) l0_0 (l0_0.length : Int) 0
set_option maxHeartbeats 8000000 in
set_option maxRecDepth 100000 in
theorem impl_Trie_kids.calls (k : Nat) (A0_0 : Option Addr) (c0_0 : Nat) (l0_0 : List (S79)) (a1 : Int) (r : List Int) (w : World) (hr0_0 : Kd.C k79 w A0_0 l0_0.length l0_0) (hc0_0 : l0_0.length ≤ c0_0) (h : impl_Trie_kids.f k l0_0 a1 = some r) :
    Calls Try.prog 77 #[.agg #[.slice A0_0 l0_0.length c0_0], .int .i64 a1] w fun e w' => ∃ v0_ : Value, e = .returned (v0_) ∧ Kd.R (Kd.int .i64) 3 w' w.heap.size (fun _ => True) v0_ r ∧ Below w.heap.size w w' := by
  have hu29 := Try.underlying29
  have hu79 := Try.underlying79
  have HR0_0 := Aside0.mk hr0_0
  have HC0_0 := Aside0.mk hc0_0
  clear hr0_0 hc0_0
  have HB := Aside0.mk (Below.refl w.heap.size w)
  have H : (impl_Trie_kids.l0 k a1 (([] : List Int)) l0_0 (l0_0.length : Int) 0) = some r := h
  clear h
  obtain ⟨y556, hy556⟩ : ∃ y_ : List Int, y_ = (([] : List Int)) := ⟨_, rfl⟩
  replace H : (impl_Trie_kids.l0 k a1 y556 l0_0 (l0_0.length : Int) 0) = some r := by first | (rw [hy556]; with_reducible exact H) | (have H2_ := (Option.bind_some _ _).symm.trans H; rw [hy556]; with_reducible exact H2_) | (have H2_ := (Option.bind_some _ _).symm.trans H; with_reducible exact H2_) | with_reducible exact H | (rw [hy556]; exact H) | exact H
  have Ny556 := Aside0.mk hy556
  clear hy556
  have H' := Aside0.mk H
  clear H
  go_enter Try.func77, Try.ntmps77
  go_wp2_with (first | ((with_reducible refine gate_dst (N := 2) rfl ?_); refine box_event ?hg (N := 2) ?hd (cs := #[.slice A0_0 l0_0.length c0_0]) (t := 29) ?hr ?_; (case hd => rfl); (case hg => rfl); (case hr => first | (go_simp; done) | (go_simp; rfl)); intro gb555 hg w3 hbox hb; have n0_ := Aside0.mk (below_step (by repeat (first | (with_reducible first | exact HB.out | apply below_alloc | apply pw_below_drewN | apply below_drew1) | exact HB.out)) hb); have n1_ := Aside0.mk (hbox); have n2_ := Aside0.mk ((by rw [hg]; exact (below_size (by repeat (first | (with_reducible first | exact HB.out | apply below_alloc | apply pw_below_drewN | apply below_drew1) | exact HB.out))) : w.heap.size ≤ gb555)); have n3_ := Aside0.mk ((by rw [hg]; exact (below_size (by repeat (first | (with_reducible first | exact HB.out | apply below_alloc | apply pw_below_drewN | apply below_drew1) | exact HB.out))) : w.heap.size ≤ gb555)); clear HB; have HB := n0_; have BK555 := n1_; have GW555 := n2_; have GE555 := n3_; clear n0_ n1_ n2_ n3_; clear hb hbox hg) | ((with_reducible refine gate_dst (N := 8) rfl ?_); refine Kd.R_lit (Kd.int .i64) _ 3 ?hg (N := 8) ?hd (xs := ([] : List Int)) (inner := []) (ok := fun _ => True) (okp := fun _ => True) ?hr ?hp (fun _ hk => hk) trivial (Below.refl _ _) (Nat.le_refl _) (by simp) ?_; (case hd => rfl); (case hg => rfl); (case hr => first | (go_simp; done) | (go_simp; rfl)); (case hp => exact (Reps.none _ _)); intro v557 w4 ho5 hb hg_ hnew_; clear hg_ hnew_; (first | rw [← Ny556.out] at ho5 | (simp only [Int.reduceToNat] at ho5; rw [← Ny556.out] at ho5)); have n0_ := Aside0.mk (Kd.R_lower ho5 (below_size (by repeat (first | (with_reducible first | exact HB.out | apply below_alloc | apply pw_below_drewN | apply below_drew1 | refine below_set ?_ GE555.out) | exact HB.out)))); have n1_ := Aside0.mk (blk_below (g := gb555) (o := .cells #[.slice A0_0 l0_0.length c0_0] 29 (0, 0)) (by (with_reducible repeat (first | refine blk_drewN ?_ _ | refine blk_drew ?_ | refine blk_alloc ?_ _)); exact BK555.out) hb); have n2_ := Aside0.mk (below_step (by repeat (first | (with_reducible first | exact HB.out | apply below_alloc | apply pw_below_drewN | apply below_drew1 | refine below_set ?_ GE555.out) | exact HB.out)) hb); clear BK555; clear HB; have HO558 := n0_; have BK555 := n1_; have HB := n2_; clear n0_ n1_ n2_; clear hb ho5; have hcz6_0 : w4.cell? ⟨gb555, 0, none⟩ = some (.slice A0_0 l0_0.length c0_0) := (blk_cell BK555.out 0).trans rfl; have hfz6_0 := blk_frozen BK555.out 0))
  go_loopg [5, 12] k (fun kq v5 v12 w' => ∃ (x5_1 : List Int) (x12_1 : Int), v12 = .int .i64 x12_1 ∧ Aside0 (impl_Trie_kids.l0 kq a1 x5_1 l0_0 (l0_0.length : Int) x12_1 = some r) ∧ Aside0 (kq ≤ k) ∧ Aside0 (Kd.R (Kd.int .i64) 3 w' w.heap.size (fun _ => True) v5 x5_1) ∧ Aside0 (w'.heap[gb555]? = some (.cells #[(.slice A0_0 l0_0.length c0_0)] 29 (0, 0))) ∧ Aside0 (Below w.heap.size w w'))
  case atStart => exact ⟨(y556), (0), (by first | rfl | (simp; done) | (simp [*]; done)), H', ⟨Nat.le_refl _⟩, ⟨by (with_reducible repeat (first | apply Kd.R_alloc | apply Kd.R_drewN | apply Kd.R_drew)); exact HO558.out⟩, ⟨by (with_reducible repeat (first | refine blk_drewN ?_ _ | refine blk_drew ?_ | refine blk_alloc ?_ _)); exact BK555.out⟩, ⟨by repeat (first | (with_reducible first | exact HB.out | apply below_alloc | apply pw_below_drewN | apply below_drew1 | refine below_set ?_ GE555.out) | exact HB.out)⟩⟩
  case round =>
    clear H'
    try clear p2
    try clear hcz6_0
    try clear hfz6_0
    obtain ⟨x5_1, x12_1, rfl, HA, HK1, HO_5, BK555, HB⟩ := hrel
    cases gk with
    | zero => exact absurd HA.out (by simp [impl_Trie_kids.l0])
    | succ k1 =>
      have H := HA.out
      clear HA
      simp only [impl_Trie_kids.l0] at H
      by_cases c7 : x12_1 < (l0_0.length : Int)
      · rw [if_pos c7] at H
        have c7b0 : decide (x12_1 < (l0_0.length : Int)) = true := decide_eq_true c7
        clear c7
        by_cases c8 : 0 ≤ x12_1
        · rw [if_pos c8] at H
          have c8b0 : decide (0 ≤ x12_1) = true := decide_eq_true c8
          clear c8
          by_cases c9 : x12_1 < (l0_0.length : Int)
          · rw [if_pos c9] at H
            have c9b0 : decide (x12_1 < (l0_0.length : Int)) = true := decide_eq_true c9
            clear c9
            by_cases c10 : ((rd_T79 l0_0 x12_1).f1) = a1
            · rw [if_pos c10] at H
              have c10b0 : (((rd_T79 l0_0 x12_1).f1) == a1) = true := beq_iff_eq.mpr c10
              have c10b1 : (((rd_T79 l0_0 x12_1).f1) != a1) = false := bne_eq_false_iff_eq.mpr c10
              clear c10
              by_cases c11 : x5_1.length < 17592186044416
              · rw [if_pos c11] at H
                have LMc11 := Aside0.mk c11
                clear c11
                obtain ⟨y561, hy561⟩ : ∃ y_ : List Int, y_ = (x5_1 ++ [x12_1]) := ⟨_, rfl⟩
                replace H : (impl_Trie_kids.l0 k1 a1 y561 l0_0 (l0_0.length : Int) (wrap64 (x12_1 + 1))) = some r := by first | (rw [hy561]; with_reducible exact H) | (have H2_ := (Option.bind_some _ _).symm.trans H; rw [hy561]; with_reducible exact H2_) | (have H2_ := (Option.bind_some _ _).symm.trans H; with_reducible exact H2_) | with_reducible exact H | (rw [hy561]; exact H) | exact H
                have Ny561 := Aside0.mk hy561
                clear hy561
                have H' := Aside0.mk H
                clear H
                have p559 : 0 ≤ (x12_1 : Int) := of_decide_eq_true (by first | (with_reducible assumption) | assumption)
                have q559 : x12_1 < (l0_0.length : Int) := of_decide_eq_true (by first | (with_reducible assumption) | assumption)
                obtain ⟨ad559, e559, hx559_0, hx559_1, hx559_2⟩ := at_T79 HR0_0.out x12_1 p559 q559
                cases e559
                replace hx559_0 := (HB.out.cell (World.block_lt_of_cell? w _ hx559_0)).trans hx559_0
                replace hx559_1 := (HB.out.cell (World.block_lt_of_cell? w _ hx559_1)).trans hx559_1
                replace hx559_2 := (HB.out.cell (World.block_lt_of_cell? w _ hx559_2)).trans hx559_2
                replace p559 := eq_true p559
                replace q559 := eq_true q559
                go_wp2_with (first | ((with_reducible refine gate_dst (N := 7) rfl ?_); refine box_event ?hg (N := 7) ?hd (cs := #[.int .i64 0, .int .i64 0, .bool false]) (t := 79) ?hr ?_; (case hd => rfl); (case hg => rfl); (case hr => first | (go_simp; done) | (go_simp; rfl)); intro gb560 hg w12 hbox hb; have n0_ := Aside0.mk (Kd.R_below (by (with_reducible repeat (first | apply Kd.R_alloc | apply Kd.R_drewN | apply Kd.R_drew)); exact HO_5.out) hb); have n1_ := Aside0.mk (blk_below (g := gb555) (o := .cells #[.slice (some ad559) l0_0.length c0_0] 29 (0, 0)) (by (with_reducible repeat (first | refine blk_drewN ?_ _ | refine blk_drew ?_ | refine blk_alloc ?_ _)); exact BK555.out) hb); have n2_ := Aside0.mk (below_step (by repeat (first | (with_reducible first | exact HB.out | apply below_alloc | apply pw_below_drewN | apply below_drew1 | refine below_set ?_ GE555.out) | exact HB.out)) hb); have n3_ := Aside0.mk (hbox); have n4_ := Aside0.mk ((by rw [hg]; exact (below_size (by repeat (first | (with_reducible first | exact HB.out | apply below_alloc | apply pw_below_drewN | apply below_drew1 | refine below_set ?_ GE555.out) | exact HB.out))) : w.heap.size ≤ gb560)); have n5_ := Aside0.mk ((by rw [hg]; exact (below_size (by repeat (first | (with_reducible first | exact HB.out | apply below_alloc | apply pw_below_drewN | apply below_drew1 | refine below_set ?_ GE555.out) | exact HB.out))) : w.heap.size ≤ gb560)); have n6_ := Aside0.mk ((by rw [hg]; exact Nat.ne_of_lt (blk_lt (g := gb555) (o := .cells #[.slice (some ad559) l0_0.length c0_0] 29 (0, 0)) (by (with_reducible repeat (first | refine blk_drewN ?_ _ | refine blk_drew ?_ | refine blk_alloc ?_ _)); exact BK555.out)) : gb555 ≠ gb560)); have n7_ := Aside0.mk ((by rw [hg]; exact Nat.ne_of_gt (blk_lt (g := gb555) (o := .cells #[.slice (some ad559) l0_0.length c0_0] 29 (0, 0)) (by (with_reducible repeat (first | refine blk_drewN ?_ _ | refine blk_drew ?_ | refine blk_alloc ?_ _)); exact BK555.out)) : gb560 ≠ gb555)); clear HO_5; clear BK555; clear HB; have HO_5 := n0_; have BK555 := n1_; have HB := n2_; have BK560 := n3_; have GW560 := n4_; have GE560 := n5_; have NB555_560 := n6_; have NB560_555 := n7_; clear n0_ n1_ n2_ n3_ n4_ n5_ n6_ n7_; clear hb hbox hg; have hnb13 := NB560_555.out; have hnc13 := NB555_560.out; have hcz14_0 : w12.cell? ⟨gb560, 0, none⟩ = some (.int .i64 0) := (blk_cell BK560.out 0).trans rfl; have hcz14_1 : w12.cell? ⟨gb560, 1, none⟩ = some (.int .i64 0) := (blk_cell BK560.out 1).trans rfl; have hcz14_2 : w12.cell? ⟨gb560, 2, none⟩ = some (.bool false) := (blk_cell BK560.out 2).trans rfl; have hfz14_0 := blk_frozen BK560.out 0; have hfz14_1 := blk_frozen BK560.out 1; have hfz14_2 := blk_frozen BK560.out 2) | ((with_reducible refine gate_builtin (b := .append) (xs := #[.tmp 21, .tmp 23]) rfl ?_); at_builtin; refine Kd.R_append (Kd.int .i64) (w0 := w) w.heap.size rfl (.tmp 21) (.tmp 23) 51 3 (.int .i64 0) 8 rfl Try.underlying51 info3 rfl (by decide) (by omega) u5 x5_1 x12_1 [.int .i64 x12_1] (fun _ => True) (fun _ => False) rfl (by first | (go_simp; done) | (go_simp; rfl)) ?aP (fun _ hk => hk.elim) ?aF ?aO ?aB ?aS ?aL ?_; (case aP => exact rfl); (case aB => exact (by repeat (first | (with_reducible first | exact HB.out | apply below_alloc | apply pw_below_drewN | apply below_drew1 | refine below_set ?_ GE555.out | refine below_set ?_ GE560.out) | exact HB.out))); (case aF => exact (fun _ _ => trivial)); (case aO => exact (by (with_reducible repeat (first | apply Kd.R_alloc | apply Kd.R_drewN | apply Kd.R_drew)); exact Kd.R_mono (R_same_ (Kd.R_far (p := ⟨gb560, 2, none⟩) (Kd.R_far (p := ⟨gb560, 1, none⟩) (Kd.R_far (p := ⟨gb560, 0, none⟩) (Kd.R_types HO_5.out BK560.out (by decide)) (fun _ hk => hk.2) (.int .i64 ((rd_T79 l0_0 x12_1).f0))) (fun _ hk => hk.2) (.int .i64 ((rd_T79 l0_0 x12_1).f1))) (fun _ hk => hk.2) (.bool ((rd_T79 l0_0 x12_1).f2))) rfl) (fun _ hk => trivial))); (case aS => exact (below_size (by repeat (first | (with_reducible first | exact HB.out | apply below_alloc | apply pw_below_drewN | apply below_drew1 | refine below_set ?_ GE555.out | refine below_set ?_ GE560.out) | exact HB.out)))); (case aL => have := LMc11.out; omega); intro v562 w15 ho hb hg hat; rw [← Ny561.out] at ho; have n0_ := Aside0.mk (blk_grown (g := gb555) (o := .cells #[.slice (some ad559) l0_0.length c0_0] 29 (0, 0)) (by (with_reducible repeat (first | refine blk_drewN ?_ _ | refine blk_drew ?_ | refine blk_alloc ?_ _)); refine blk_far ?_ NB555_560.out _; (with_reducible repeat (first | refine blk_drewN ?_ _ | refine blk_drew ?_ | refine blk_alloc ?_ _)); refine blk_far ?_ NB555_560.out _; (with_reducible repeat (first | refine blk_drewN ?_ _ | refine blk_drew ?_ | refine blk_alloc ?_ _)); refine blk_far ?_ NB555_560.out _; (with_reducible repeat (first | refine blk_drewN ?_ _ | refine blk_drew ?_ | refine blk_alloc ?_ _)); exact BK555.out) hg (Kd.R_ne HO_5.out BK555.out (by decide))); have n1_ := Aside0.mk (blk_grown (g := gb560) (o := .cells #[.int .i64 ((rd_T79 l0_0 x12_1).f0), .int .i64 ((rd_T79 l0_0 x12_1).f1), .bool ((rd_T79 l0_0 x12_1).f2)] 79 (0, 0)) (by (with_reducible repeat (first | refine blk_drewN ?_ _ | refine blk_drew ?_ | refine blk_alloc ?_ _)); refine blk_put (cs := #[.int .i64 ((rd_T79 l0_0 x12_1).f0), .int .i64 ((rd_T79 l0_0 x12_1).f1), .bool false]) ?_ 2 _ rfl; (with_reducible repeat (first | refine blk_drewN ?_ _ | refine blk_drew ?_ | refine blk_alloc ?_ _)); refine blk_put (cs := #[.int .i64 ((rd_T79 l0_0 x12_1).f0), .int .i64 0, .bool false]) ?_ 1 _ rfl; (with_reducible repeat (first | refine blk_drewN ?_ _ | refine blk_drew ?_ | refine blk_alloc ?_ _)); refine blk_put (cs := #[.int .i64 0, .int .i64 0, .bool false]) ?_ 0 _ rfl; (with_reducible repeat (first | refine blk_drewN ?_ _ | refine blk_drew ?_ | refine blk_alloc ?_ _)); exact BK560.out) hg (Kd.R_ne HO_5.out BK560.out (by decide))); have n2_ := Aside0.mk (hb); have n3_ := Aside0.mk (ho); clear BK555; clear BK560; clear HB; clear HO_5; have BK555 := n0_; have BK560 := n1_; have HB := n2_; have HO563 := n3_; clear n0_ n1_ n2_ n3_; clear ho hb hg hat))
                go_roundg k1
                case measure => have := HK1.out; omega
                case rel => exact ⟨(y561), (wrap64 (x12_1 + 1)), (by first | rfl | (simp; done) | (simp [*]; done)), H', ⟨by have := HK1.out; omega⟩, ⟨by (with_reducible repeat (first | apply Kd.R_alloc | apply Kd.R_drewN | apply Kd.R_drew)); exact HO563.out⟩, ⟨by (with_reducible repeat (first | refine blk_drewN ?_ _ | refine blk_drew ?_ | refine blk_alloc ?_ _)); exact BK555.out⟩, ⟨by repeat (first | (with_reducible first | exact HB.out | apply below_alloc | apply pw_below_drewN | apply below_drew1 | refine below_set ?_ GE555.out | refine below_set ?_ GE560.out) | exact HB.out)⟩⟩
              · rw [if_neg c11] at H
                exact absurd H (by simp)
            · rw [if_neg c10] at H
              have c10b0 : (((rd_T79 l0_0 x12_1).f1) == a1) = false := beq_eq_false_iff_ne.mpr c10
              have c10b1 : (((rd_T79 l0_0 x12_1).f1) != a1) = true := bne_iff_ne.mpr c10
              have H' := Aside0.mk H
              clear H
              have p559 : 0 ≤ (x12_1 : Int) := of_decide_eq_true (by first | (with_reducible assumption) | assumption)
              have q559 : x12_1 < (l0_0.length : Int) := of_decide_eq_true (by first | (with_reducible assumption) | assumption)
              obtain ⟨ad559, e559, hx559_0, hx559_1, hx559_2⟩ := at_T79 HR0_0.out x12_1 p559 q559
              cases e559
              replace hx559_0 := (HB.out.cell (World.block_lt_of_cell? w _ hx559_0)).trans hx559_0
              replace hx559_1 := (HB.out.cell (World.block_lt_of_cell? w _ hx559_1)).trans hx559_1
              replace hx559_2 := (HB.out.cell (World.block_lt_of_cell? w _ hx559_2)).trans hx559_2
              replace p559 := eq_true p559
              replace q559 := eq_true q559
              go_wp2_with (first | ((with_reducible refine gate_dst (N := 7) rfl ?_); refine box_event ?hg (N := 7) ?hd (cs := #[.int .i64 0, .int .i64 0, .bool false]) (t := 79) ?hr ?_; (case hd => rfl); (case hg => rfl); (case hr => first | (go_simp; done) | (go_simp; rfl)); intro gb560 hg w16 hbox hb; have n0_ := Aside0.mk (Kd.R_below (by (with_reducible repeat (first | apply Kd.R_alloc | apply Kd.R_drewN | apply Kd.R_drew)); exact HO_5.out) hb); have n1_ := Aside0.mk (blk_below (g := gb555) (o := .cells #[.slice (some ad559) l0_0.length c0_0] 29 (0, 0)) (by (with_reducible repeat (first | refine blk_drewN ?_ _ | refine blk_drew ?_ | refine blk_alloc ?_ _)); exact BK555.out) hb); have n2_ := Aside0.mk (below_step (by repeat (first | (with_reducible first | exact HB.out | apply below_alloc | apply pw_below_drewN | apply below_drew1 | refine below_set ?_ GE555.out) | exact HB.out)) hb); have n3_ := Aside0.mk (hbox); have n4_ := Aside0.mk ((by rw [hg]; exact (below_size (by repeat (first | (with_reducible first | exact HB.out | apply below_alloc | apply pw_below_drewN | apply below_drew1 | refine below_set ?_ GE555.out) | exact HB.out))) : w.heap.size ≤ gb560)); have n5_ := Aside0.mk ((by rw [hg]; exact (below_size (by repeat (first | (with_reducible first | exact HB.out | apply below_alloc | apply pw_below_drewN | apply below_drew1 | refine below_set ?_ GE555.out) | exact HB.out))) : w.heap.size ≤ gb560)); have n6_ := Aside0.mk ((by rw [hg]; exact Nat.ne_of_lt (blk_lt (g := gb555) (o := .cells #[.slice (some ad559) l0_0.length c0_0] 29 (0, 0)) (by (with_reducible repeat (first | refine blk_drewN ?_ _ | refine blk_drew ?_ | refine blk_alloc ?_ _)); exact BK555.out)) : gb555 ≠ gb560)); have n7_ := Aside0.mk ((by rw [hg]; exact Nat.ne_of_gt (blk_lt (g := gb555) (o := .cells #[.slice (some ad559) l0_0.length c0_0] 29 (0, 0)) (by (with_reducible repeat (first | refine blk_drewN ?_ _ | refine blk_drew ?_ | refine blk_alloc ?_ _)); exact BK555.out)) : gb560 ≠ gb555)); clear HO_5; clear BK555; clear HB; have HO_5 := n0_; have BK555 := n1_; have HB := n2_; have BK560 := n3_; have GW560 := n4_; have GE560 := n5_; have NB555_560 := n6_; have NB560_555 := n7_; clear n0_ n1_ n2_ n3_ n4_ n5_ n6_ n7_; clear hb hbox hg; have hnb17 := NB560_555.out; have hnc17 := NB555_560.out; have hcz18_0 : w16.cell? ⟨gb560, 0, none⟩ = some (.int .i64 0) := (blk_cell BK560.out 0).trans rfl; have hcz18_1 : w16.cell? ⟨gb560, 1, none⟩ = some (.int .i64 0) := (blk_cell BK560.out 1).trans rfl; have hcz18_2 : w16.cell? ⟨gb560, 2, none⟩ = some (.bool false) := (blk_cell BK560.out 2).trans rfl; have hfz18_0 := blk_frozen BK560.out 0; have hfz18_1 := blk_frozen BK560.out 1; have hfz18_2 := blk_frozen BK560.out 2))
              go_roundg k1
              case measure => have := HK1.out; omega
              case rel => exact ⟨(x5_1), (wrap64 (x12_1 + 1)), (by first | rfl | (simp; done) | (simp [*]; done)), H', ⟨by have := HK1.out; omega⟩, ⟨by (with_reducible repeat (first | apply Kd.R_alloc | apply Kd.R_drewN | apply Kd.R_drew)); exact Kd.R_mono (R_same_ (Kd.R_far (p := ⟨gb560, 2, none⟩) (Kd.R_far (p := ⟨gb560, 1, none⟩) (Kd.R_far (p := ⟨gb560, 0, none⟩) (Kd.R_types HO_5.out BK560.out (by decide)) (fun _ hk => hk.2) (.int .i64 ((rd_T79 l0_0 x12_1).f0))) (fun _ hk => hk.2) (.int .i64 ((rd_T79 l0_0 x12_1).f1))) (fun _ hk => hk.2) (.bool ((rd_T79 l0_0 x12_1).f2))) rfl) (fun _ hk => trivial)⟩, ⟨by (with_reducible repeat (first | refine blk_drewN ?_ _ | refine blk_drew ?_ | refine blk_alloc ?_ _)); refine blk_far ?_ NB555_560.out _; (with_reducible repeat (first | refine blk_drewN ?_ _ | refine blk_drew ?_ | refine blk_alloc ?_ _)); refine blk_far ?_ NB555_560.out _; (with_reducible repeat (first | refine blk_drewN ?_ _ | refine blk_drew ?_ | refine blk_alloc ?_ _)); refine blk_far ?_ NB555_560.out _; (with_reducible repeat (first | refine blk_drewN ?_ _ | refine blk_drew ?_ | refine blk_alloc ?_ _)); exact BK555.out⟩, ⟨by repeat (first | (with_reducible first | exact HB.out | apply below_alloc | apply pw_below_drewN | apply below_drew1 | refine below_set ?_ GE555.out | refine below_set ?_ GE560.out) | exact HB.out)⟩⟩
          · rw [if_neg c9] at H
            exact absurd H (by simp)
        · rw [if_neg c8] at H
          exact absurd H (by simp)
      · rw [if_neg c7] at H
        have c7b0 : decide (x12_1 < (l0_0.length : Int)) = false := decide_eq_false c7
        clear c7
        obtain rfl := Option.some.inj H
        go_wp2
        go_ret
        exact ⟨_, by first | rfl | (simp [errW_none, errW_some] <;> rfl) | (simp [*, errW_none, errW_some] <;> rfl), by (with_reducible repeat (first | apply Kd.R_alloc | apply Kd.R_drewN | apply Kd.R_drew)); exact HO_5.out, by repeat (first | (with_reducible first | exact HB.out | apply below_alloc | apply pw_below_drewN | apply below_drew1 | refine below_set ?_ GE555.out) | exact HB.out)⟩
end Go.Proofs.Ytimjfgicihdhbaa.Q
namespace Go.Proofs.Ytimjfgicihdhbaa.Q
open Go.RowKit Go.Proofs.YtimjfgicihdhbaaW.PrintWords Go.Proofs.YtimjfgicihdhbaaW.PrintLast Go.Proofs.YtimjfgicihdhbaaW.PrintMore
attribute [local go_sem] run_field_23 run_field_24 run_field_28 run_field_29 isSome_setCell max2_int min2_int max_two min_two max_three min_three max_four min_four   -- for this text's walks alone
set_option linter.unusedVariables false
set_option linter.unusedSimpArgs false
mutual
def impl_Trie_text.j0 : Nat → Int → ByteArray → List (S79) → Option (ByteArray)
  | 0, _, _, _ => none
  | k + 1, x1, x5, x565000 => if 0 ≤ x1 then (if x1 < (x565000.length : Int) then (if (rd_T79 x565000 x1).f2 = true then (if x5.size + 1 ≤ 9223372036854775807 then (impl_Trie_text.j1 k x1 (x5 ++ (⟨#[46]⟩ : ByteArray)) x565000) else (none)) else (impl_Trie_text.j1 k x1 x5 x565000)) else (none)) else (none)
def impl_Trie_text.j1 : Nat → Int → ByteArray → List (S79) → Option (ByteArray)
  | 0, _, _, _ => none
  | k + 1, x1, x5, x565000 => (impl_Trie_kids.f k x565000 x1).bind fun t568 => (if (t568.length : Int) = 0 then (some x5) else (if x5.size + 1 ≤ 9223372036854775807 then (impl_Trie_text.l0 k (x5 ++ (⟨#[40]⟩ : ByteArray)) t568 (t568.length : Int) 0 x565000) else (none)))
def impl_Trie_text.l0 : Nat → ByteArray → List Int → Int → Int → List (S79) → Option (ByteArray)
  | 0, _, _, _, _, _ => none
  | k + 1, x5, x35, x36, x37, x565000 => if x37 < x36 then (if 0 ≤ x37 then (if x37 < (x35.length : Int) then ((impl_Trie_text.f k x565000 (rd x35 x37)).bind fun t572 => (if x5.size + t572.size ≤ 9223372036854775807 then (impl_Trie_text.l0 k (x5 ++ t572) x35 x36 (wrap64 (x37 + 1)) x565000) else (none))) else (none)) else (none)) else (if x5.size + 1 ≤ 9223372036854775807 then (some (x5 ++ (⟨#[41]⟩ : ByteArray))) else (none))
def impl_Trie_text.f : Nat → List (S79) → Int → Option (ByteArray)
  | 0, _, _ => none
  | k + 1, l0_0, a1 => if a1 > 0 then (if 0 ≤ a1 then (if a1 < (l0_0.length : Int) then ((impl_letter.f ((rd_T79 l0_0 a1).f0)).bind fun t566 => (impl_Trie_text.j0 k a1 t566 l0_0)) else (none)) else (none)) else (impl_Trie_text.j0 k a1 (⟨#[]⟩ : ByteArray) l0_0)
end
set_option maxHeartbeats 8000000 in
set_option maxRecDepth 100000 in
theorem impl_Trie_text.calls (k : Nat) : ∀ (A0_0 : Option Addr) (c0_0 : Nat) (l0_0 : List (S79)) (a1 : Int) (r : ByteArray) (w : World) (hr0_0 : Kd.C k79 w A0_0 l0_0.length l0_0) (hc0_0 : l0_0.length ≤ c0_0) (h : impl_Trie_text.f k l0_0 a1 = some r),
    Calls Try.prog 65 #[.agg #[.slice A0_0 l0_0.length c0_0], .int .i64 a1] w fun e w' => e = .returned (.string r) ∧ Below w.heap.size w w' := by
  induction k using Nat.strongRecOn with
  | _ k ih =>
  intro A0_0 c0_0 l0_0 a1 r w hr0_0 hc0_0 h
  cases k with
  | zero => exact absurd h (by simp [impl_Trie_text.f])
  | succ k =>
  simp only [impl_Trie_text.f] at h
  have hu29 := Try.underlying29
  have HR0_0 := Aside0.mk hr0_0
  have HC0_0 := Aside0.mk hc0_0
  clear hr0_0 hc0_0
  have HB := Aside0.mk (Below.refl w.heap.size w)
  have H : (if a1 > 0 then (if 0 ≤ a1 then (if a1 < (l0_0.length : Int) then ((impl_letter.f ((rd_T79 l0_0 a1).f0)).bind fun t566 => (impl_Trie_text.j0 k a1 t566 l0_0)) else (none)) else (none)) else (impl_Trie_text.j0 k a1 (⟨#[]⟩ : ByteArray) l0_0)) = some r := h
  clear h
  have HC3 := Aside0.mk H
  clear H
  go_enter Try.func65, Try.ntmps65
  go_upto_if 10 with (first | ((with_reducible refine gate_dst (N := 2) rfl ?_); refine box_event ?hg (N := 2) ?hd (cs := #[.slice A0_0 l0_0.length c0_0]) (t := 29) ?hr ?_; (case hd => rfl); (case hg => rfl); (case hr => first | (go_simp; done) | (go_simp; rfl)); intro gb564 hg w4 hbox hb; have n0_ := Aside0.mk (below_step (by repeat (first | (with_reducible first | exact HB.out | apply below_alloc | apply pw_below_drewN | apply below_drew1) | exact HB.out)) hb); have n1_ := Aside0.mk (hbox); have n2_ := Aside0.mk ((by rw [hg]; exact (below_size (by repeat (first | (with_reducible first | exact HB.out | apply below_alloc | apply pw_below_drewN | apply below_drew1) | exact HB.out))) : w.heap.size ≤ gb564)); have n3_ := Aside0.mk ((by rw [hg]; exact (below_size (by repeat (first | (with_reducible first | exact HB.out | apply below_alloc | apply pw_below_drewN | apply below_drew1) | exact HB.out))) : w.heap.size ≤ gb564)); clear HB; have HB := n0_; have BK564 := n1_; have GW564 := n2_; have GE564 := n3_; clear n0_ n1_ n2_ n3_; clear hb hbox hg))
  (try simp only [Act.put, List.setIfInBounds_toArray, List.set_cons_zero, List.set_cons_succ])
  go_cut [5] (fun v5 wc => ∃ (kq : Nat) (x5_2 : ByteArray), v5 = .string x5_2 ∧ Aside0 (impl_Trie_text.j0 kq a1 x5_2 l0_0 = some r) ∧ Aside0 (kq ≤ k) ∧ Aside0 (wc.heap[gb564]? = some (.cells #[(.slice A0_0 l0_0.length c0_0)] 29 (0, 0))) ∧ Aside0 (Below w.heap.size w wc))
  case first =>
    have H := HC3.out
    clear HC3
    by_cases c5 : a1 > 0
    · rw [if_pos c5] at H
      have c5b0 : decide (0 < a1) = true := decide_eq_true c5
      clear c5
      (first | rw [c5b0] | (simp only [i64_w, i32_w]; rw [c5b0]) | skip)
      by_cases c6 : 0 ≤ a1
      · rw [if_pos c6] at H
        have c6b0 : decide (0 ≤ a1) = true := decide_eq_true c6
        clear c6
        by_cases c7 : a1 < (l0_0.length : Int)
        · rw [if_pos c7] at H
          have c7b0 : decide (a1 < (l0_0.length : Int)) = true := decide_eq_true c7
          clear c7
          replace H := Option.bind_eq_some_iff.mp H
          obtain ⟨t566, A80, H⟩ := H
          replace H : (impl_Trie_text.j0 k a1 t566 l0_0) = some r := H
          have A8 := Aside0.mk A80
          clear A80
          have H' := Aside0.mk H
          clear H
          have hcz9_0 : w4.cell? ⟨gb564, 0, none⟩ = some (.slice A0_0 l0_0.length c0_0) := (blk_cell BK564.out 0).trans rfl
          have hfz9_0 := blk_frozen BK564.out 0
          have p565 : 0 ≤ (a1 : Int) := of_decide_eq_true (by first | (with_reducible assumption) | assumption)
          have q565 : a1 < (l0_0.length : Int) := of_decide_eq_true (by first | (with_reducible assumption) | assumption)
          obtain ⟨ad565, e565, hx565_0, hx565_1, hx565_2⟩ := at_T79 HR0_0.out a1 p565 q565
          cases e565
          replace hx565_0 := (HB.out.cell (World.block_lt_of_cell? w _ hx565_0)).trans hx565_0
          replace hx565_1 := (HB.out.cell (World.block_lt_of_cell? w _ hx565_1)).trans hx565_1
          replace hx565_2 := (HB.out.cell (World.block_lt_of_cell? w _ hx565_2)).trans hx565_2
          replace p565 := eq_true p565
          replace q565 := eq_true q565
          go_wp2_with (first | ((with_reducible refine gate_callee (f := 89) rfl ?_); refine goesL_ (some 17) rfl rfl Try.func89 (by kernel_rfl) rfl #[.int .i64 ((rd_T79 l0_0 a1).f0)] rfl (by (try simp only [List.map_toArray, List.map_cons, List.map_nil]); first | done | rfl | (simp only [List.length_drop, List.length_take]; rfl)) ?_; (with_reducible refine (impl_letter.calls ((rd_T79 l0_0 a1).f0) t566 _ A8.out).mono ?_); rintro e w10 ⟨rfl, hb⟩; refine ⟨_, rfl, ?_⟩; have n0_ := Aside0.mk (blk_below (g := gb564) (o := .cells #[.slice (some ad565) l0_0.length c0_0] 29 (0, 0)) (by (with_reducible repeat (first | refine blk_drewN ?_ _ | refine blk_drew ?_ | refine blk_alloc ?_ _)); exact BK564.out) hb); have n1_ := Aside0.mk (below_step (by repeat (first | (with_reducible first | exact HB.out | apply below_alloc | apply pw_below_drewN | apply below_drew1 | refine below_set ?_ GE564.out) | exact HB.out)) hb); clear BK564; clear HB; have BK564 := n0_; have HB := n1_; clear n0_ n1_; (try clear hb); (try clear hb2); (try clear hk); (try clear hi)))
          go_meet
          case rel => exact ⟨_, (t566), (by first | rfl | (simp; done) | (simp [*]; done)), H', ⟨by first | omega | exact Nat.le_refl _⟩, ⟨by (with_reducible repeat (first | refine blk_drewN ?_ _ | refine blk_drew ?_ | refine blk_alloc ?_ _)); exact BK564.out⟩, ⟨by repeat (first | (with_reducible first | exact HB.out | apply below_alloc | apply pw_below_drewN | apply below_drew1 | refine below_set ?_ GE564.out) | exact HB.out)⟩⟩
        · rw [if_neg c7] at H
          exact absurd H (by simp)
      · rw [if_neg c6] at H
        exact absurd H (by simp)
    · rw [if_neg c5] at H
      have c5b0 : decide (0 < a1) = false := decide_eq_false c5
      clear c5
      (first | rw [c5b0] | (simp only [i64_w, i32_w]; rw [c5b0]) | skip)
      have H' := Aside0.mk H
      clear H
      go_wp2
      go_meet
      case rel => exact ⟨_, ((⟨#[]⟩ : ByteArray)), (by first | rfl | (simp; done) | (simp [*]; done)), H', ⟨by first | omega | exact Nat.le_refl _⟩, ⟨by (with_reducible repeat (first | refine blk_drewN ?_ _ | refine blk_drew ?_ | refine blk_alloc ?_ _)); exact BK564.out⟩, ⟨by repeat (first | (with_reducible first | exact HB.out | apply below_alloc | apply pw_below_drewN | apply below_drew1 | refine below_set ?_ GE564.out) | exact HB.out)⟩⟩
  case rest =>
    clear HC3
    try clear p2
    try clear c5
    try clear c5b0
    try clear p5
    try clear q5
    try clear hx5
    try clear c6
    try clear c6b0
    try clear c7
    try clear c7b0
    try clear c8
    try clear hcz9_0
    try clear hfz9_0
    try clear hx565_0
    try clear hx565_1
    try clear hx565_2
    try clear p565
    try clear q565
    obtain ⟨kq, x5_2, rfl, HA, HJ2, BK564, HB⟩ := hcut
    cases kq with
    | zero => exact absurd HA.out (by simp [impl_Trie_text.j0])
    | succ kj2 =>
      have H := HA.out
      clear HA
      simp only [impl_Trie_text.j0] at H
      by_cases c11 : 0 ≤ a1
      · rw [if_pos c11] at H
        have c11b0 : decide (0 ≤ a1) = true := decide_eq_true c11
        clear c11
        by_cases c12 : a1 < (l0_0.length : Int)
        · rw [if_pos c12] at H
          have c12b0 : decide (a1 < (l0_0.length : Int)) = true := decide_eq_true c12
          clear c12
          have HC13 := Aside0.mk H
          clear H
          have hcz14_0 : wc.cell? ⟨gb564, 0, none⟩ = some (.slice A0_0 l0_0.length c0_0) := (blk_cell BK564.out 0).trans rfl
          have hfz14_0 := blk_frozen BK564.out 0
          have p567 : 0 ≤ (a1 : Int) := of_decide_eq_true (by first | (with_reducible assumption) | assumption)
          have q567 : a1 < (l0_0.length : Int) := of_decide_eq_true (by first | (with_reducible assumption) | assumption)
          obtain ⟨ad567, e567, hx567_0, hx567_1, hx567_2⟩ := at_T79 HR0_0.out a1 p567 q567
          cases e567
          replace hx567_0 := (HB.out.cell (World.block_lt_of_cell? w _ hx567_0)).trans hx567_0
          replace hx567_1 := (HB.out.cell (World.block_lt_of_cell? w _ hx567_1)).trans hx567_1
          replace hx567_2 := (HB.out.cell (World.block_lt_of_cell? w _ hx567_2)).trans hx567_2
          replace p567 := eq_true p567
          replace q567 := eq_true q567
          go_upto_if 23 with (fail)
          go_cut [5] (fun v5 wc => ∃ (kq : Nat) (x5_12 : ByteArray), v5 = .string x5_12 ∧ Aside0 (impl_Trie_text.j1 kq a1 x5_12 l0_0 = some r) ∧ Aside0 (kq ≤ kj2) ∧ Aside0 (wc.heap[gb564]? = some (.cells #[(.slice (some ad567) l0_0.length c0_0)] 29 (0, 0))) ∧ Aside0 (Below w.heap.size w wc))
          case first =>
            have H := HC13.out
            clear HC13
            obtain ⟨bq15, hbq15⟩ : ∃ b_ : Bool, b_ = ((rd_T79 l0_0 a1).f2) := ⟨_, rfl⟩
            replace H : (if bq15 = true then (if x5_2.size + 1 ≤ 9223372036854775807 then (impl_Trie_text.j1 kj2 a1 (x5_2 ++ (⟨#[46]⟩ : ByteArray)) l0_0) else (none)) else (impl_Trie_text.j1 kj2 a1 x5_2 l0_0)) = some r := by rw [← hbq15] at H; exact H
            have Nbq15 := Aside0.mk hbq15
            clear hbq15
            (try rw [← Nbq15.out])
            by_cases c16 : bq15 = true
            · subst c16
              have H1 : (if x5_2.size + 1 ≤ 9223372036854775807 then (impl_Trie_text.j1 kj2 a1 (x5_2 ++ (⟨#[46]⟩ : ByteArray)) l0_0) else (none)) = some r := by rw [if_pos rfl] at H; exact H
              clear H
              have H := H1
              clear H1
              by_cases c17 : x5_2.size + 1 ≤ 9223372036854775807
              · rw [if_pos c17] at H
                have c17b0 := eq_true c17
                have c17b1 : decide (x5_2.size + 1 ≤ 9223372036854775807) = true := decide_eq_true c17
                try have c17b2 : (9223372036854775807 < x5_2.size + 1) = False := eq_false (Nat.not_lt.2 c17)
                have H' := Aside0.mk H
                clear H
                go_wp2
                go_meet
                case rel => exact ⟨_, (x5_2 ++ (⟨#[46]⟩ : ByteArray)), (by first | rfl | (simp; done) | (simp [*]; done)), H', ⟨by have := HJ2.out; first | omega | exact Nat.le_refl _⟩, ⟨by (with_reducible repeat (first | refine blk_drewN ?_ _ | refine blk_drew ?_ | refine blk_alloc ?_ _)); exact BK564.out⟩, ⟨by repeat (first | (with_reducible first | exact HB.out | apply below_alloc | apply pw_below_drewN | apply below_drew1 | refine below_set ?_ GE564.out) | exact HB.out)⟩⟩
              · rw [if_neg c17] at H
                exact absurd H (by simp)
            · replace c16 := Bool.eq_false_iff.mpr c16
              subst c16
              have H1 : (impl_Trie_text.j1 kj2 a1 x5_2 l0_0) = some r := by rw [if_neg (show ¬ (false = true) by decide)] at H; exact H
              clear H
              have H := H1
              clear H1
              have H' := Aside0.mk H
              clear H
              go_wp2
              go_meet
              case rel => exact ⟨_, (x5_2), (by first | rfl | (simp; done) | (simp [*]; done)), H', ⟨by have := HJ2.out; first | omega | exact Nat.le_refl _⟩, ⟨by (with_reducible repeat (first | refine blk_drewN ?_ _ | refine blk_drew ?_ | refine blk_alloc ?_ _)); exact BK564.out⟩, ⟨by repeat (first | (with_reducible first | exact HB.out | apply below_alloc | apply pw_below_drewN | apply below_drew1 | refine below_set ?_ GE564.out) | exact HB.out)⟩⟩
          case rest =>
            clear HC13
            try clear c1
            try clear q1
            try clear p2
            try clear c5
            try clear c5b0
            try clear p5
            try clear q5
            try clear hx5
            try clear c6
            try clear c6b0
            try clear c7
            try clear c7b0
            try clear c8
            try clear c11
            try clear c11b0
            try clear c12
            try clear c12b0
            try clear q15
            try clear c16
            try clear c17
            try clear c17b0
            try clear c17b1
            try clear c17b2
            try clear hcz14_0
            try clear hcz9_0
            try clear hfz14_0
            try clear hfz9_0
            try clear hx565_0
            try clear hx565_1
            try clear hx565_2
            try clear hx567_0
            try clear hx567_1
            try clear hx567_2
            try clear p2
            try clear p5
            try clear p565
            try clear p567
            try clear q5
            try clear q565
            try clear q567
            obtain ⟨kq, x5_12, rfl, HA, HJ12, BK564, HB⟩ := hcut
            cases kq with
            | zero => exact absurd HA.out (by simp [impl_Trie_text.j1])
            | succ kj12 =>
              have H := HA.out
              clear HA
              simp only [impl_Trie_text.j1] at H
              replace H := Option.bind_eq_some_iff.mp H
              obtain ⟨t568, A180, H⟩ := H
              replace H : (if (t568.length : Int) = 0 then (some x5_12) else (if x5_12.size + 1 ≤ 9223372036854775807 then (impl_Trie_text.l0 kj12 (x5_12 ++ (⟨#[40]⟩ : ByteArray)) t568 (t568.length : Int) 0 l0_0) else (none))) = some r := H
              have A18 := Aside0.mk A180
              clear A180
              by_cases c19 : (t568.length : Int) = 0
              · rw [if_pos c19] at H
                have c19b0 : ((t568.length : Int) == 0) = true := beq_iff_eq.mpr c19
                have c19b1 : ((t568.length : Int) != 0) = false := bne_eq_false_iff_eq.mpr c19
                clear c19
                obtain rfl := Option.some.inj H
                have hcz20_0 : wc.cell? ⟨gb564, 0, none⟩ = some (.slice (some ad567) l0_0.length c0_0) := (blk_cell BK564.out 0).trans rfl
                have hfz20_0 := blk_frozen BK564.out 0
                go_wp2_with (first | ((with_reducible refine gate_callee (f := 77) rfl ?_); refine goesL_ (some 28) rfl rfl Try.func77 (by kernel_rfl) rfl #[.agg #[.slice (some ad567) l0_0.length c0_0], .int .i64 a1] rfl (by (try simp only [List.map_toArray, List.map_cons, List.map_nil]); first | done | rfl | (simp only [List.length_drop, List.length_take]; rfl)) ?_; (with_reducible refine (impl_Trie_kids.calls kj12 _ _ l0_0 a1 t568 _ ?side1 ?side2 A18.out).mono ?_); (case side1 => repeat (first | exact (Kd.C_below HR0_0.out HB.out) | (with_reducible refine Kd.C_alloc ?_ _) | (with_reducible refine Kd.C_drewN ?_ _) | (with_reducible refine Kd.C_drew ?_))); (case side2 => exact HC0_0.out); rintro e w21 ⟨v569, rfl, ho0, hb⟩; refine ⟨_, rfl, ?_⟩; have n0_ := Aside0.mk (Kd.R_lower ho0 (below_size (by repeat (first | (with_reducible first | exact HB.out | apply below_alloc | apply pw_below_drewN | apply below_drew1 | refine below_set ?_ GE564.out) | exact HB.out)))); have n1_ := Aside0.mk (blk_below (g := gb564) (o := .cells #[.slice (some ad567) l0_0.length c0_0] 29 (0, 0)) (by (with_reducible repeat (first | refine blk_drewN ?_ _ | refine blk_drew ?_ | refine blk_alloc ?_ _)); exact BK564.out) hb); have n2_ := Aside0.mk (below_step (by repeat (first | (with_reducible first | exact HB.out | apply below_alloc | apply pw_below_drewN | apply below_drew1 | refine below_set ?_ GE564.out) | exact HB.out)) hb); clear BK564; clear HB; have HO570 := n0_; have BK564 := n1_; have HB := n2_; clear n0_ n1_ n2_; (try clear hb); (try clear hb2); (try clear hk); (try clear hi); (try clear ho0); obtain ⟨Ao22, co22, eo22⟩ := Kd.R_slice HO570.out; subst eo22))
                go_ret
                exact ⟨by first | rfl | (simp [errW_none, errW_some] <;> rfl) | (simp [*, errW_none, errW_some] <;> rfl), by repeat (first | (with_reducible first | exact HB.out | apply below_alloc | apply pw_below_drewN | apply below_drew1 | refine below_set ?_ GE564.out) | exact HB.out)⟩
              · rw [if_neg c19] at H
                have c19b0 : ((t568.length : Int) == 0) = false := beq_eq_false_iff_ne.mpr c19
                have c19b1 : ((t568.length : Int) != 0) = true := bne_iff_ne.mpr c19
                have c19b2 : ¬ (t568 = []) := fun h_ => c19 (by rw [h_]; rfl)
                by_cases c23 : x5_12.size + 1 ≤ 9223372036854775807
                · rw [if_pos c23] at H
                  have c23b0 := eq_true c23
                  have c23b1 : decide (x5_12.size + 1 ≤ 9223372036854775807) = true := decide_eq_true c23
                  try have c23b2 : (9223372036854775807 < x5_12.size + 1) = False := eq_false (Nat.not_lt.2 c23)
                  have H' := Aside0.mk H
                  clear H
                  have hcz24_0 : wc.cell? ⟨gb564, 0, none⟩ = some (.slice (some ad567) l0_0.length c0_0) := (blk_cell BK564.out 0).trans rfl
                  have hfz24_0 := blk_frozen BK564.out 0
                  go_wp2_with (first | ((with_reducible refine gate_callee (f := 77) rfl ?_); refine goesL_ (some 28) rfl rfl Try.func77 (by kernel_rfl) rfl #[.agg #[.slice (some ad567) l0_0.length c0_0], .int .i64 a1] rfl (by (try simp only [List.map_toArray, List.map_cons, List.map_nil]); first | done | rfl | (simp only [List.length_drop, List.length_take]; rfl)) ?_; (with_reducible refine (impl_Trie_kids.calls kj12 _ _ l0_0 a1 t568 _ ?side1 ?side2 A18.out).mono ?_); (case side1 => repeat (first | exact (Kd.C_below HR0_0.out HB.out) | (with_reducible refine Kd.C_alloc ?_ _) | (with_reducible refine Kd.C_drewN ?_ _) | (with_reducible refine Kd.C_drew ?_))); (case side2 => exact HC0_0.out); rintro e w25 ⟨v569, rfl, ho0, hb⟩; refine ⟨_, rfl, ?_⟩; have n0_ := Aside0.mk (Kd.R_lower ho0 (below_size (by repeat (first | (with_reducible first | exact HB.out | apply below_alloc | apply pw_below_drewN | apply below_drew1 | refine below_set ?_ GE564.out) | exact HB.out)))); have n1_ := Aside0.mk (blk_below (g := gb564) (o := .cells #[.slice (some ad567) l0_0.length c0_0] 29 (0, 0)) (by (with_reducible repeat (first | refine blk_drewN ?_ _ | refine blk_drew ?_ | refine blk_alloc ?_ _)); exact BK564.out) hb); have n2_ := Aside0.mk (below_step (by repeat (first | (with_reducible first | exact HB.out | apply below_alloc | apply pw_below_drewN | apply below_drew1 | refine below_set ?_ GE564.out) | exact HB.out)) hb); clear BK564; clear HB; have HO570 := n0_; have BK564 := n1_; have HB := n2_; clear n0_ n1_ n2_; (try clear hb); (try clear hb2); (try clear hk); (try clear hi); (try clear ho0); obtain ⟨Ao26, co26, eo26⟩ := Kd.R_slice HO570.out; subst eo26))
                  go_loopg [5, 37] kj12 (fun kq v5 v37 w' => ∃ (x5_3 : ByteArray) (x37_3 : Int), v5 = .string x5_3 ∧ v37 = .int .i64 x37_3 ∧ Aside0 (impl_Trie_text.l0 kq x5_3 t568 (t568.length : Int) x37_3 l0_0 = some r) ∧ Aside0 (kq ≤ kj12) ∧ Aside0 (Kd.R (Kd.int .i64) 3 w' w.heap.size (fun _ => True) (.slice Ao26 t568.length co26) t568) ∧ Aside0 (w'.heap[gb564]? = some (.cells #[(.slice (some ad567) l0_0.length c0_0)] 29 (0, 0))) ∧ Aside0 (Below w.heap.size w w'))
                  case atStart => exact ⟨(x5_12 ++ (⟨#[40]⟩ : ByteArray)), (0), (by first | rfl | (simp; done) | (simp [*]; done)), (by first | rfl | (simp; done) | (simp [*]; done)), H', ⟨Nat.le_refl _⟩, ⟨by (with_reducible repeat (first | apply Kd.R_alloc | apply Kd.R_drewN | apply Kd.R_drew)); exact HO570.out⟩, ⟨by (with_reducible repeat (first | refine blk_drewN ?_ _ | refine blk_drew ?_ | refine blk_alloc ?_ _)); exact BK564.out⟩, ⟨by repeat (first | (with_reducible first | exact HB.out | apply below_alloc | apply pw_below_drewN | apply below_drew1 | refine below_set ?_ GE564.out) | exact HB.out)⟩⟩
                  case round =>
                    clear H'
                    try clear c1
                    try clear q1
                    try clear c2
                    try clear p2
                    try clear c5
                    try clear c5b0
                    try clear p5
                    try clear q5
                    try clear hx5
                    try clear c6
                    try clear c6b0
                    try clear c7
                    try clear c7b0
                    try clear c8
                    try clear c11
                    try clear c11b0
                    try clear c12
                    try clear c12b0
                    try clear q15
                    try clear c16
                    try clear c17
                    try clear c17b0
                    try clear c17b1
                    try clear c17b2
                    try clear c19
                    try clear c19b0
                    try clear c19b1
                    try clear c19b2
                    try clear c23
                    try clear c23b0
                    try clear c23b1
                    try clear c23b2
                    try clear hcz14_0
                    try clear hcz20_0
                    try clear hcz24_0
                    try clear hcz9_0
                    try clear hfz14_0
                    try clear hfz20_0
                    try clear hfz24_0
                    try clear hfz9_0
                    try clear hx565_0
                    try clear hx565_1
                    try clear hx565_2
                    try clear hx567_0
                    try clear hx567_1
                    try clear hx567_2
                    try clear p2
                    try clear p5
                    try clear p565
                    try clear p567
                    try clear q1
                    try clear q15
                    try clear q5
                    try clear q565
                    try clear q567
                    obtain ⟨x5_3, x37_3, rfl, rfl, HA, HK3, HO_35, BK564, HB⟩ := hrel
                    cases gk with
                    | zero => exact absurd HA.out (by simp [impl_Trie_text.l0])
                    | succ k3 =>
                      have H := HA.out
                      clear HA
                      simp only [impl_Trie_text.l0] at H
                      by_cases c27 : x37_3 < (t568.length : Int)
                      · rw [if_pos c27] at H
                        have c27b0 : decide (x37_3 < (t568.length : Int)) = true := decide_eq_true c27
                        clear c27
                        by_cases c28 : 0 ≤ x37_3
                        · rw [if_pos c28] at H
                          have c28b0 : decide (0 ≤ x37_3) = true := decide_eq_true c28
                          clear c28
                          by_cases c29 : x37_3 < (t568.length : Int)
                          · rw [if_pos c29] at H
                            have c29b0 : decide (x37_3 < (t568.length : Int)) = true := decide_eq_true c29
                            clear c29
                            replace H := Option.bind_eq_some_iff.mp H
                            obtain ⟨t572, A300, H⟩ := H
                            replace H : (if x5_3.size + t572.size ≤ 9223372036854775807 then (impl_Trie_text.l0 k3 (x5_3 ++ t572) t568 (t568.length : Int) (wrap64 (x37_3 + 1)) l0_0) else (none)) = some r := H
                            have A30 := Aside0.mk A300
                            clear A300
                            by_cases c31 : x5_3.size + t572.size ≤ 9223372036854775807
                            · rw [if_pos c31] at H
                              have c31b0 := eq_true c31
                              have c31b1 : decide (x5_3.size + t572.size ≤ 9223372036854775807) = true := decide_eq_true c31
                              try have c31b2 : (9223372036854775807 < x5_3.size + t572.size) = False := eq_false (Nat.not_lt.2 c31)
                              have H' := Aside0.mk H
                              clear H
                              have p571 : 0 ≤ (x37_3 : Int) := of_decide_eq_true (by first | (with_reducible assumption) | assumption)
                              have q571 : x37_3 < (t568.length : Int) := of_decide_eq_true (by first | (with_reducible assumption) | assumption)
                              obtain ⟨ad571, e571, hx571_0⟩ := Kd.at_int (Kd.R_reads' HO_35.out).2.2 x37_3 p571 q571
                              cases e571
                              replace p571 := eq_true p571
                              replace q571 := eq_true q571
                              have hcz32_0 : wr.cell? ⟨gb564, 0, none⟩ = some (.slice (some ad567) l0_0.length c0_0) := (blk_cell BK564.out 0).trans rfl
                              have hfz32_0 := blk_frozen BK564.out 0
                              go_wp2_with (first | ((with_reducible refine gate_callee (f := 65) rfl ?_); refine goesL_ (some 44) rfl rfl Try.func65 (by kernel_rfl) rfl #[.agg #[.slice (some ad567) l0_0.length c0_0], .int .i64 (rd t568 x37_3)] rfl (by (try simp only [List.map_toArray, List.map_cons, List.map_nil]); first | done | rfl | (simp only [List.length_drop, List.length_take]; rfl)) ?_; (with_reducible refine (ih k3 (by have := HJ2.out; have := HJ12.out; have := HK3.out; omega) _ _ l0_0 (rd t568 x37_3) t572 _ ?side1 ?side2 A30.out).mono ?_); (case side1 => repeat (first | exact (Kd.C_below HR0_0.out HB.out) | (with_reducible refine Kd.C_alloc ?_ _) | (with_reducible refine Kd.C_drewN ?_ _) | (with_reducible refine Kd.C_drew ?_))); (case side2 => exact HC0_0.out); rintro e w33 ⟨rfl, hb⟩; refine ⟨_, rfl, ?_⟩; have n0_ := Aside0.mk (Kd.R_below (by (with_reducible repeat (first | apply Kd.R_alloc | apply Kd.R_drewN | apply Kd.R_drew)); exact HO_35.out) hb); have n1_ := Aside0.mk (blk_below (g := gb564) (o := .cells #[.slice (some ad567) l0_0.length c0_0] 29 (0, 0)) (by (with_reducible repeat (first | refine blk_drewN ?_ _ | refine blk_drew ?_ | refine blk_alloc ?_ _)); exact BK564.out) hb); have n2_ := Aside0.mk (below_step (by repeat (first | (with_reducible first | exact HB.out | apply below_alloc | apply pw_below_drewN | apply below_drew1 | refine below_set ?_ GE564.out) | exact HB.out)) hb); clear HO_35; clear BK564; clear HB; have HO_35 := n0_; have BK564 := n1_; have HB := n2_; clear n0_ n1_ n2_; (try clear hb); (try clear hb2); (try clear hk); (try clear hi)))
                              go_roundg k3
                              case measure => have := HJ2.out; have := HJ12.out; have := HK3.out; omega
                              case rel => exact ⟨(x5_3 ++ t572), (wrap64 (x37_3 + 1)), (by first | rfl | (simp; done) | (simp [*]; done)), (by first | rfl | (simp; done) | (simp [*]; done)), H', ⟨by have := HJ2.out; have := HJ12.out; have := HK3.out; omega⟩, ⟨by (with_reducible repeat (first | apply Kd.R_alloc | apply Kd.R_drewN | apply Kd.R_drew)); exact HO_35.out⟩, ⟨by (with_reducible repeat (first | refine blk_drewN ?_ _ | refine blk_drew ?_ | refine blk_alloc ?_ _)); exact BK564.out⟩, ⟨by repeat (first | (with_reducible first | exact HB.out | apply below_alloc | apply pw_below_drewN | apply below_drew1 | refine below_set ?_ GE564.out) | exact HB.out)⟩⟩
                            · rw [if_neg c31] at H
                              exact absurd H (by simp)
                          · rw [if_neg c29] at H
                            exact absurd H (by simp)
                        · rw [if_neg c28] at H
                          exact absurd H (by simp)
                      · rw [if_neg c27] at H
                        have c27b0 : decide (x37_3 < (t568.length : Int)) = false := decide_eq_false c27
                        clear c27
                        by_cases c34 : x5_3.size + 1 ≤ 9223372036854775807
                        · rw [if_pos c34] at H
                          have c34b0 := eq_true c34
                          have c34b1 : decide (x5_3.size + 1 ≤ 9223372036854775807) = true := decide_eq_true c34
                          try have c34b2 : (9223372036854775807 < x5_3.size + 1) = False := eq_false (Nat.not_lt.2 c34)
                          obtain rfl := Option.some.inj H
                          go_wp2
                          go_ret
                          exact ⟨by first | rfl | (simp [errW_none, errW_some] <;> rfl) | (simp [*, errW_none, errW_some] <;> rfl), by repeat (first | (with_reducible first | exact HB.out | apply below_alloc | apply pw_below_drewN | apply below_drew1 | refine below_set ?_ GE564.out) | exact HB.out)⟩
                        · rw [if_neg c34] at H
                          exact absurd H (by simp)
                · rw [if_neg c23] at H
                  exact absurd H (by simp)
        · rw [if_neg c12] at H
          exact absurd H (by simp)
      · rw [if_neg c11] at H
        exact absurd H (by simp)
def impl_TrieText.f (k : Nat) (l0_0 : List (S79)) : Option (ByteArray × Bool) := (impl_isTrie.f k l0_0).bind fun t574 => (if t574 = true then ((impl_Trie_text.f k l0_0 0).bind fun t575 => (some (t575, true))) else (some ((⟨#[]⟩ : ByteArray), false)))
set_option maxHeartbeats 8000000 in
set_option maxRecDepth 100000 in
theorem impl_TrieText.calls (k : Nat) (A0_0 : Option Addr) (c0_0 : Nat) (l0_0 : List (S79)) (r1 : ByteArray) (r2 : Bool) (w : World) (hr0_0 : Kd.C k79 w A0_0 l0_0.length l0_0) (hc0_0 : l0_0.length ≤ c0_0) (h : impl_TrieText.f k l0_0 = some (r1, r2)) :
    Calls Try.prog 37 #[.agg #[.slice A0_0 l0_0.length c0_0]] w fun e w' => e = .returned (.tuple #[.string r1, .bool r2]) ∧ Below w.heap.size w w' := by
  have hu29 := Try.underlying29
  have HR0_0 := Aside0.mk hr0_0
  have HC0_0 := Aside0.mk hc0_0
  clear hr0_0 hc0_0
  have HB := Aside0.mk (Below.refl w.heap.size w)
  have H : ((impl_isTrie.f k l0_0).bind fun t574 => (if t574 = true then ((impl_Trie_text.f k l0_0 0).bind fun t575 => (some (t575, true))) else (some ((⟨#[]⟩ : ByteArray), false)))) = some (r1, r2) := h
  clear h
  replace H := Option.bind_eq_some_iff.mp H
  obtain ⟨t574, A20, H⟩ := H
  replace H : (if t574 = true then ((impl_Trie_text.f k l0_0 0).bind fun t575 => (some (t575, true))) else (some ((⟨#[]⟩ : ByteArray), false))) = some (r1, r2) := H
  have A2 := Aside0.mk A20
  clear A20
  by_cases c3 : t574 = true
  · subst c3
    have H1 : ((impl_Trie_text.f k l0_0 0).bind fun t575 => (some (t575, true))) = some (r1, r2) := by rw [if_pos rfl] at H; exact H
    clear H
    have H := H1
    clear H1
    replace H := Option.bind_eq_some_iff.mp H
    obtain ⟨t575, A40, H⟩ := H
    replace H : (some (t575, true)) = some (r1, r2) := H
    have A4 := Aside0.mk A40
    clear A40
    simp only [Option.some.injEq, Prod.mk.injEq] at H
    obtain ⟨rfl, rfl⟩ := H
    go_enter Try.func37, Try.ntmps37
    go_wp2_with (first | ((with_reducible refine gate_dst (N := 1) rfl ?_); refine box_event ?hg (N := 1) ?hd (cs := #[.slice A0_0 l0_0.length c0_0]) (t := 29) ?hr ?_; (case hd => rfl); (case hg => rfl); (case hr => first | (go_simp; done) | (go_simp; rfl)); intro gb573 hg w5 hbox hb; have n0_ := Aside0.mk (below_step (by repeat (first | (with_reducible first | exact HB.out | apply below_alloc | apply pw_below_drewN | apply below_drew1) | exact HB.out)) hb); have n1_ := Aside0.mk (hbox); have n2_ := Aside0.mk ((by rw [hg]; exact (below_size (by repeat (first | (with_reducible first | exact HB.out | apply below_alloc | apply pw_below_drewN | apply below_drew1) | exact HB.out))) : w.heap.size ≤ gb573)); have n3_ := Aside0.mk ((by rw [hg]; exact (below_size (by repeat (first | (with_reducible first | exact HB.out | apply below_alloc | apply pw_below_drewN | apply below_drew1) | exact HB.out))) : w.heap.size ≤ gb573)); clear HB; have HB := n0_; have BK573 := n1_; have GW573 := n2_; have GE573 := n3_; clear n0_ n1_ n2_ n3_; clear hb hbox hg; have hcz6_0 : w5.cell? ⟨gb573, 0, none⟩ = some (.slice A0_0 l0_0.length c0_0) := (blk_cell BK573.out 0).trans rfl; have hfz6_0 := blk_frozen BK573.out 0) | ((with_reducible refine gate_callee (f := 53) rfl ?_); refine goesL_ (some 5) rfl rfl Try.func53 (by kernel_rfl) rfl #[.agg #[.slice A0_0 l0_0.length c0_0]] rfl (by (try simp only [List.map_toArray, List.map_cons, List.map_nil]); first | done | rfl | (simp only [List.length_drop, List.length_take]; rfl)) ?_; (with_reducible refine (impl_isTrie.calls k _ _ l0_0 true _ ?side1 ?side2 A2.out).mono ?_); (case side1 => repeat (first | exact (Kd.C_below HR0_0.out HB.out) | (with_reducible refine Kd.C_alloc ?_ _) | (with_reducible refine Kd.C_drewN ?_ _) | (with_reducible refine Kd.C_drew ?_))); (case side2 => exact HC0_0.out); rintro e w7 ⟨rfl, hb⟩; refine ⟨_, rfl, ?_⟩; have n0_ := Aside0.mk (blk_below (g := gb573) (o := .cells #[.slice A0_0 l0_0.length c0_0] 29 (0, 0)) (by (with_reducible repeat (first | refine blk_drewN ?_ _ | refine blk_drew ?_ | refine blk_alloc ?_ _)); exact BK573.out) hb); have n1_ := Aside0.mk (below_step (by repeat (first | (with_reducible first | exact HB.out | apply below_alloc | apply pw_below_drewN | apply below_drew1 | refine below_set ?_ GE573.out) | exact HB.out)) hb); clear BK573; clear HB; have BK573 := n0_; have HB := n1_; clear n0_ n1_; (try clear hb); (try clear hb2); (try clear hk); (try clear hi); have hcz8_0 : w7.cell? ⟨gb573, 0, none⟩ = some (.slice A0_0 l0_0.length c0_0) := (blk_cell BK573.out 0).trans rfl; have hfz8_0 := blk_frozen BK573.out 0) | ((with_reducible refine gate_callee (f := 65) rfl ?_); refine goesL_ (some 8) rfl rfl Try.func65 (by kernel_rfl) rfl #[.agg #[.slice A0_0 l0_0.length c0_0], .int .i64 0] rfl (by (try simp only [List.map_toArray, List.map_cons, List.map_nil]); first | done | rfl | (simp only [List.length_drop, List.length_take]; rfl)) ?_; (with_reducible refine (impl_Trie_text.calls k _ _ l0_0 0 t575 _ ?side1 ?side2 A4.out).mono ?_); (case side1 => repeat (first | exact (Kd.C_below HR0_0.out HB.out) | (with_reducible refine Kd.C_alloc ?_ _) | (with_reducible refine Kd.C_drewN ?_ _) | (with_reducible refine Kd.C_drew ?_))); (case side2 => exact HC0_0.out); rintro e w9 ⟨rfl, hb⟩; refine ⟨_, rfl, ?_⟩; have n0_ := Aside0.mk (blk_below (g := gb573) (o := .cells #[.slice A0_0 l0_0.length c0_0] 29 (0, 0)) (by (with_reducible repeat (first | refine blk_drewN ?_ _ | refine blk_drew ?_ | refine blk_alloc ?_ _)); exact BK573.out) hb); have n1_ := Aside0.mk (below_step (by repeat (first | (with_reducible first | exact HB.out | apply below_alloc | apply pw_below_drewN | apply below_drew1 | refine below_set ?_ GE573.out) | exact HB.out)) hb); clear BK573; clear HB; have BK573 := n0_; have HB := n1_; clear n0_ n1_; (try clear hb); (try clear hb2); (try clear hk); (try clear hi)))
    go_ret2
    exact ⟨by first | rfl | (simp [errW_none, errW_some] <;> rfl) | (simp [*, errW_none, errW_some] <;> rfl), by repeat (first | (with_reducible first | exact HB.out | apply below_alloc | apply pw_below_drewN | apply below_drew1 | refine below_set ?_ GE573.out) | exact HB.out)⟩
  · replace c3 := Bool.eq_false_iff.mpr c3
    subst c3
    have H1 : (some ((⟨#[]⟩ : ByteArray), false)) = some (r1, r2) := by rw [if_neg (show ¬ (false = true) by decide)] at H; exact H
    clear H
    have H := H1
    clear H1
    simp only [Option.some.injEq, Prod.mk.injEq] at H
    obtain ⟨rfl, rfl⟩ := H
    go_enter Try.func37, Try.ntmps37
    go_wp2_with (first | ((with_reducible refine gate_dst (N := 1) rfl ?_); refine box_event ?hg (N := 1) ?hd (cs := #[.slice A0_0 l0_0.length c0_0]) (t := 29) ?hr ?_; (case hd => rfl); (case hg => rfl); (case hr => first | (go_simp; done) | (go_simp; rfl)); intro gb573 hg w10 hbox hb; have n0_ := Aside0.mk (below_step (by repeat (first | (with_reducible first | exact HB.out | apply below_alloc | apply pw_below_drewN | apply below_drew1) | exact HB.out)) hb); have n1_ := Aside0.mk (hbox); have n2_ := Aside0.mk ((by rw [hg]; exact (below_size (by repeat (first | (with_reducible first | exact HB.out | apply below_alloc | apply pw_below_drewN | apply below_drew1) | exact HB.out))) : w.heap.size ≤ gb573)); have n3_ := Aside0.mk ((by rw [hg]; exact (below_size (by repeat (first | (with_reducible first | exact HB.out | apply below_alloc | apply pw_below_drewN | apply below_drew1) | exact HB.out))) : w.heap.size ≤ gb573)); clear HB; have HB := n0_; have BK573 := n1_; have GW573 := n2_; have GE573 := n3_; clear n0_ n1_ n2_ n3_; clear hb hbox hg; have hcz11_0 : w10.cell? ⟨gb573, 0, none⟩ = some (.slice A0_0 l0_0.length c0_0) := (blk_cell BK573.out 0).trans rfl; have hfz11_0 := blk_frozen BK573.out 0) | ((with_reducible refine gate_callee (f := 53) rfl ?_); refine goesL_ (some 5) rfl rfl Try.func53 (by kernel_rfl) rfl #[.agg #[.slice A0_0 l0_0.length c0_0]] rfl (by (try simp only [List.map_toArray, List.map_cons, List.map_nil]); first | done | rfl | (simp only [List.length_drop, List.length_take]; rfl)) ?_; (with_reducible refine (impl_isTrie.calls k _ _ l0_0 false _ ?side1 ?side2 A2.out).mono ?_); (case side1 => repeat (first | exact (Kd.C_below HR0_0.out HB.out) | (with_reducible refine Kd.C_alloc ?_ _) | (with_reducible refine Kd.C_drewN ?_ _) | (with_reducible refine Kd.C_drew ?_))); (case side2 => exact HC0_0.out); rintro e w12 ⟨rfl, hb⟩; refine ⟨_, rfl, ?_⟩; have n0_ := Aside0.mk (blk_below (g := gb573) (o := .cells #[.slice A0_0 l0_0.length c0_0] 29 (0, 0)) (by (with_reducible repeat (first | refine blk_drewN ?_ _ | refine blk_drew ?_ | refine blk_alloc ?_ _)); exact BK573.out) hb); have n1_ := Aside0.mk (below_step (by repeat (first | (with_reducible first | exact HB.out | apply below_alloc | apply pw_below_drewN | apply below_drew1 | refine below_set ?_ GE573.out) | exact HB.out)) hb); clear BK573; clear HB; have BK573 := n0_; have HB := n1_; clear n0_ n1_; (try clear hb); (try clear hb2); (try clear hk); (try clear hi)))
    go_ret2
    exact ⟨by first | rfl | (simp [errW_none, errW_some] <;> rfl) | (simp [*, errW_none, errW_some] <;> rfl), by repeat (first | (with_reducible first | exact HB.out | apply below_alloc | apply pw_below_drewN | apply below_drew1 | refine below_set ?_ GE573.out) | exact HB.out)⟩
end Go.Proofs.Ytimjfgicihdhbaa.Q
namespace Go.Proofs.Ytimjfgicihdhbaa.Q
open Go.RowKit Go.Proofs.YtimjfgicihdhbaaW.PrintWords Go.Proofs.YtimjfgicihdhbaaW.PrintLast Go.Proofs.YtimjfgicihdhbaaW.PrintMore
attribute [local go_sem] run_field_23 run_field_24 run_field_28 run_field_29 isSome_setCell max2_int min2_int max_two min_two max_three min_three max_four min_four   -- for this text's walks alone
set_option linter.unusedVariables false
set_option linter.unusedSimpArgs false
def laws_FnExactTrieText.j0 : Nat → Bool → List (S81) → List (S79) → Option (Bool)
  | 0, _, _, _ => none
  | k + 1, x34, x577000, x587000 => if x34 = true then (some false) else ((laws_toTrie.f k x577000).bind fun t589 => ((laws_eqTrie.f k x587000 t589).bind fun t592 => (if t592 = true then (some true) else (some false))))
def laws_FnExactTrieText.f (k : Nat) (l0_0 : List (S81)) : Option (Bool) := (laws_szTrie.f l0_0 1048576).bind fun t577 => (if t577 < 0 then (some true) else ((laws_toTrie.f k l0_0).bind fun t578 => ((spec_TrieText.f k t578).bind fun bt581 => ((laws_toTrie.f k l0_0).bind fun t583 => ((impl_TrieText.f k t583).bind fun bt587 => (if bt587.1.toList = bt581.1.toList then (laws_FnExactTrieText.j0 k (bt587.2 != bt581.2) l0_0 t583) else (laws_FnExactTrieText.j0 k true l0_0 t583)))))))
set_option maxHeartbeats 8000000 in
set_option maxRecDepth 100000 in
theorem laws_FnExactTrieText.calls (k : Nat) (A0_0 : Option Addr) (c0_0 : Nat) (l0_0 : List (S81)) (r : Bool) (w : World) (hr0_0 : Kd.C k81 w A0_0 l0_0.length l0_0) (hc0_0 : l0_0.length ≤ c0_0) (h : laws_FnExactTrieText.f k l0_0 = some r) :
    Calls Try.prog 11 #[.agg #[.slice A0_0 l0_0.length c0_0]] w fun e w' => e = .returned (.bool r) ∧ Below w.heap.size w w' := by
  have hu24 := Try.underlying24
  have hu29 := Try.underlying29
  have HR0_0 := Aside0.mk hr0_0
  have HC0_0 := Aside0.mk hc0_0
  clear hr0_0 hc0_0
  have HB := Aside0.mk (Below.refl w.heap.size w)
  have H : ((laws_szTrie.f l0_0 1048576).bind fun t577 => (if t577 < 0 then (some true) else ((laws_toTrie.f k l0_0).bind fun t578 => ((spec_TrieText.f k t578).bind fun bt581 => ((laws_toTrie.f k l0_0).bind fun t583 => ((impl_TrieText.f k t583).bind fun bt587 => (if bt587.1.toList = bt581.1.toList then (laws_FnExactTrieText.j0 k (bt587.2 != bt581.2) l0_0 t583) else (laws_FnExactTrieText.j0 k true l0_0 t583)))))))) = some r := h
  clear h
  replace H := Option.bind_eq_some_iff.mp H
  obtain ⟨t577, A20, H⟩ := H
  replace H : (if t577 < 0 then (some true) else ((laws_toTrie.f k l0_0).bind fun t578 => ((spec_TrieText.f k t578).bind fun bt581 => ((laws_toTrie.f k l0_0).bind fun t583 => ((impl_TrieText.f k t583).bind fun bt587 => (if bt587.1.toList = bt581.1.toList then (laws_FnExactTrieText.j0 k (bt587.2 != bt581.2) l0_0 t583) else (laws_FnExactTrieText.j0 k true l0_0 t583))))))) = some r := H
  have A2 := Aside0.mk A20
  clear A20
  by_cases c3 : t577 < 0
  · rw [if_pos c3] at H
    have c3b0 : decide (t577 < 0) = true := decide_eq_true c3
    clear c3
    obtain rfl := Option.some.inj H
    go_enter Try.func11, Try.ntmps11
    go_wp2_with (first | ((with_reducible refine gate_dst (N := 1) rfl ?_); refine box_event ?hg (N := 1) ?hd (cs := #[.slice A0_0 l0_0.length c0_0]) (t := 24) ?hr ?_; (case hd => rfl); (case hg => rfl); (case hr => first | (go_simp; done) | (go_simp; rfl)); intro gb576 hg w4 hbox hb; have n0_ := Aside0.mk (below_step (by repeat (first | (with_reducible first | exact HB.out | apply below_alloc | apply pw_below_drewN | apply below_drew1) | exact HB.out)) hb); have n1_ := Aside0.mk (hbox); have n2_ := Aside0.mk ((by rw [hg]; exact (below_size (by repeat (first | (with_reducible first | exact HB.out | apply below_alloc | apply pw_below_drewN | apply below_drew1) | exact HB.out))) : w.heap.size ≤ gb576)); have n3_ := Aside0.mk ((by rw [hg]; exact (below_size (by repeat (first | (with_reducible first | exact HB.out | apply below_alloc | apply pw_below_drewN | apply below_drew1) | exact HB.out))) : w.heap.size ≤ gb576)); clear HB; have HB := n0_; have BK576 := n1_; have GW576 := n2_; have GE576 := n3_; clear n0_ n1_ n2_ n3_; clear hb hbox hg; have hcz5_0 : w4.cell? ⟨gb576, 0, none⟩ = some (.slice A0_0 l0_0.length c0_0) := (blk_cell BK576.out 0).trans rfl; have hfz5_0 := blk_frozen BK576.out 0) | ((with_reducible refine gate_callee (f := 15) rfl ?_); refine goesL_ (some 11) rfl rfl Try.func15 (by kernel_rfl) rfl #[.agg #[.slice A0_0 l0_0.length c0_0], .int .i64 1048576] rfl (by (try simp only [List.map_toArray, List.map_cons, List.map_nil]); first | done | rfl | (simp only [List.length_drop, List.length_take]; rfl)) ?_; (with_reducible refine (laws_szTrie.calls _ _ l0_0 1048576 t577 _ ?side1 ?side2 A2.out).mono ?_); (case side1 => repeat (first | exact (Kd.C_below HR0_0.out HB.out) | (with_reducible refine Kd.C_alloc ?_ _) | (with_reducible refine Kd.C_drewN ?_ _) | (with_reducible refine Kd.C_drew ?_))); (case side2 => exact HC0_0.out); rintro e w6 ⟨rfl, hb⟩; refine ⟨_, rfl, ?_⟩; have n0_ := Aside0.mk (blk_below (g := gb576) (o := .cells #[.slice A0_0 l0_0.length c0_0] 24 (0, 0)) (by (with_reducible repeat (first | refine blk_drewN ?_ _ | refine blk_drew ?_ | refine blk_alloc ?_ _)); exact BK576.out) hb); have n1_ := Aside0.mk (below_step (by repeat (first | (with_reducible first | exact HB.out | apply below_alloc | apply pw_below_drewN | apply below_drew1 | refine below_set ?_ GE576.out) | exact HB.out)) hb); clear BK576; clear HB; have BK576 := n0_; have HB := n1_; clear n0_ n1_; (try clear hb); (try clear hb2); (try clear hk); (try clear hi)))
    go_ret
    exact ⟨by first | rfl | (simp [errW_none, errW_some] <;> rfl) | (simp [*, errW_none, errW_some] <;> rfl), by repeat (first | (with_reducible first | exact HB.out | apply below_alloc | apply pw_below_drewN | apply below_drew1 | refine below_set ?_ GE576.out) | exact HB.out)⟩
  · rw [if_neg c3] at H
    have c3b0 : decide (t577 < 0) = false := decide_eq_false c3
    clear c3
    replace H := Option.bind_eq_some_iff.mp H
    obtain ⟨t578, A70, H⟩ := H
    replace H : ((spec_TrieText.f k t578).bind fun bt581 => ((laws_toTrie.f k l0_0).bind fun t583 => ((impl_TrieText.f k t583).bind fun bt587 => (if bt587.1.toList = bt581.1.toList then (laws_FnExactTrieText.j0 k (bt587.2 != bt581.2) l0_0 t583) else (laws_FnExactTrieText.j0 k true l0_0 t583))))) = some r := H
    have A7 := Aside0.mk A70
    clear A70
    replace H := Option.bind_eq_some_iff.mp H
    obtain ⟨⟨t581, t582⟩, A80, H⟩ := H
    replace H : ((laws_toTrie.f k l0_0).bind fun t583 => ((impl_TrieText.f k t583).bind fun bt587 => (if bt587.1.toList = t581.toList then (laws_FnExactTrieText.j0 k (bt587.2 != t582) l0_0 t583) else (laws_FnExactTrieText.j0 k true l0_0 t583)))) = some r := H
    have A8 := Aside0.mk A80
    clear A80
    replace H := Option.bind_eq_some_iff.mp H
    obtain ⟨t583, A90, H⟩ := H
    replace H : ((impl_TrieText.f k t583).bind fun bt587 => (if bt587.1.toList = t581.toList then (laws_FnExactTrieText.j0 k (bt587.2 != t582) l0_0 t583) else (laws_FnExactTrieText.j0 k true l0_0 t583))) = some r := H
    have A9 := Aside0.mk A90
    clear A90
    replace H := Option.bind_eq_some_iff.mp H
    obtain ⟨⟨t587, t588⟩, A100, H⟩ := H
    replace H : (if t587.toList = t581.toList then (laws_FnExactTrieText.j0 k (t588 != t582) l0_0 t583) else (laws_FnExactTrieText.j0 k true l0_0 t583)) = some r := H
    have A10 := Aside0.mk A100
    clear A100
    have HC11 := Aside0.mk H
    clear H
    go_enter Try.func11, Try.ntmps11
    go_upto_region 8 with (first | ((with_reducible refine gate_dst (N := 1) rfl ?_); refine box_event ?hg (N := 1) ?hd (cs := #[.slice A0_0 l0_0.length c0_0]) (t := 24) ?hr ?_; (case hd => rfl); (case hg => rfl); (case hr => first | (go_simp; done) | (go_simp; rfl)); intro gb576 hg w12 hbox hb; have n0_ := Aside0.mk (below_step (by repeat (first | (with_reducible first | exact HB.out | apply below_alloc | apply pw_below_drewN | apply below_drew1) | exact HB.out)) hb); have n1_ := Aside0.mk (hbox); have n2_ := Aside0.mk ((by rw [hg]; exact (below_size (by repeat (first | (with_reducible first | exact HB.out | apply below_alloc | apply pw_below_drewN | apply below_drew1) | exact HB.out))) : w.heap.size ≤ gb576)); have n3_ := Aside0.mk ((by rw [hg]; exact (below_size (by repeat (first | (with_reducible first | exact HB.out | apply below_alloc | apply pw_below_drewN | apply below_drew1) | exact HB.out))) : w.heap.size ≤ gb576)); clear HB; have HB := n0_; have BK576 := n1_; have GW576 := n2_; have GE576 := n3_; clear n0_ n1_ n2_ n3_; clear hb hbox hg; have hcz13_0 : w12.cell? ⟨gb576, 0, none⟩ = some (.slice A0_0 l0_0.length c0_0) := (blk_cell BK576.out 0).trans rfl; have hfz13_0 := blk_frozen BK576.out 0) | ((with_reducible refine gate_callee (f := 15) rfl ?_); refine goesL_ (some 11) rfl rfl Try.func15 (by kernel_rfl) rfl #[.agg #[.slice A0_0 l0_0.length c0_0], .int .i64 1048576] rfl (by (try simp only [List.map_toArray, List.map_cons, List.map_nil]); first | done | rfl | (simp only [List.length_drop, List.length_take]; rfl)) ?_; (with_reducible refine (laws_szTrie.calls _ _ l0_0 1048576 t577 _ ?side1 ?side2 A2.out).mono ?_); (case side1 => repeat (first | exact (Kd.C_below HR0_0.out HB.out) | (with_reducible refine Kd.C_alloc ?_ _) | (with_reducible refine Kd.C_drewN ?_ _) | (with_reducible refine Kd.C_drew ?_))); (case side2 => exact HC0_0.out); rintro e w14 ⟨rfl, hb⟩; refine ⟨_, rfl, ?_⟩; have n0_ := Aside0.mk (blk_below (g := gb576) (o := .cells #[.slice A0_0 l0_0.length c0_0] 24 (0, 0)) (by (with_reducible repeat (first | refine blk_drewN ?_ _ | refine blk_drew ?_ | refine blk_alloc ?_ _)); exact BK576.out) hb); have n1_ := Aside0.mk (below_step (by repeat (first | (with_reducible first | exact HB.out | apply below_alloc | apply pw_below_drewN | apply below_drew1 | refine below_set ?_ GE576.out) | exact HB.out)) hb); clear BK576; clear HB; have BK576 := n0_; have HB := n1_; clear n0_ n1_; (try clear hb); (try clear hb2); (try clear hk); (try clear hi); have hcz15_0 : w14.cell? ⟨gb576, 0, none⟩ = some (.slice A0_0 l0_0.length c0_0) := (blk_cell BK576.out 0).trans rfl; have hfz15_0 := blk_frozen BK576.out 0) | ((with_reducible refine gate_callee (f := 17) rfl ?_); refine goesL_ (some 16) rfl rfl Try.func17 (by kernel_rfl) rfl #[.agg #[.slice A0_0 l0_0.length c0_0]] rfl (by (try simp only [List.map_toArray, List.map_cons, List.map_nil]); first | done | rfl | (simp only [List.length_drop, List.length_take]; rfl)) ?_; (with_reducible refine (laws_toTrie.calls k _ _ l0_0 t578 _ ?side1 ?side2 A7.out).mono ?_); (case side1 => repeat (first | exact (Kd.C_below HR0_0.out HB.out) | (with_reducible refine Kd.C_alloc ?_ _) | (with_reducible refine Kd.C_drewN ?_ _) | (with_reducible refine Kd.C_drew ?_))); (case side2 => exact HC0_0.out); rintro e w16 ⟨v579, rfl, ho0, hb⟩; refine ⟨_, rfl, ?_⟩; have n0_ := Aside0.mk (Kd.R_lower ho0 (below_size (by repeat (first | (with_reducible first | exact HB.out | apply below_alloc | apply pw_below_drewN | apply below_drew1 | refine below_set ?_ GE576.out) | exact HB.out)))); have n1_ := Aside0.mk (blk_below (g := gb576) (o := .cells #[.slice A0_0 l0_0.length c0_0] 24 (0, 0)) (by (with_reducible repeat (first | refine blk_drewN ?_ _ | refine blk_drew ?_ | refine blk_alloc ?_ _)); exact BK576.out) hb); have n2_ := Aside0.mk (below_step (by repeat (first | (with_reducible first | exact HB.out | apply below_alloc | apply pw_below_drewN | apply below_drew1 | refine below_set ?_ GE576.out) | exact HB.out)) hb); clear BK576; clear HB; have HO580 := n0_; have BK576 := n1_; have HB := n2_; clear n0_ n1_ n2_; (try clear hb); (try clear hb2); (try clear hk); (try clear hi); (try clear ho0); obtain ⟨Ao17, co17, eo17⟩ := Kd.R_slice HO580.out; subst eo17) | ((with_reducible refine gate_callee (f := 36) rfl ?_); refine goesL_ (some 17) rfl rfl Try.func36 (by kernel_rfl) rfl #[.agg #[.slice Ao17 t578.length co17]] rfl (by (try simp only [List.map_toArray, List.map_cons, List.map_nil]); first | done | rfl | (simp only [List.length_drop, List.length_take]; rfl)) ?_; (with_reducible refine (spec_TrieText.calls k _ _ t578 t581 t582 _ ?side1 ?side2 A8.out).mono ?_); (case side1 => repeat (first | exact (Kd.R_reads' HO580.out).2.2 | (with_reducible refine Kd.C_alloc ?_ _) | (with_reducible refine Kd.C_drewN ?_ _) | (with_reducible refine Kd.C_drew ?_))); (case side2 => exact (Kd.R_reads' HO580.out).2.1); rintro e w18 ⟨rfl, hb⟩; refine ⟨_, rfl, ?_⟩; have n0_ := Aside0.mk (Kd.R_below (by (with_reducible repeat (first | apply Kd.R_alloc | apply Kd.R_drewN | apply Kd.R_drew)); exact HO580.out) hb); have n1_ := Aside0.mk (blk_below (g := gb576) (o := .cells #[.slice A0_0 l0_0.length c0_0] 24 (0, 0)) (by (with_reducible repeat (first | refine blk_drewN ?_ _ | refine blk_drew ?_ | refine blk_alloc ?_ _)); exact BK576.out) hb); have n2_ := Aside0.mk (below_step (by repeat (first | (with_reducible first | exact HB.out | apply below_alloc | apply pw_below_drewN | apply below_drew1 | refine below_set ?_ GE576.out) | exact HB.out)) hb); clear HO580; clear BK576; clear HB; have HO580 := n0_; have BK576 := n1_; have HB := n2_; clear n0_ n1_ n2_; (try clear hb); (try clear hb2); (try clear hk); (try clear hi); have hcz19_0 : w18.cell? ⟨gb576, 0, none⟩ = some (.slice A0_0 l0_0.length c0_0) := (blk_cell BK576.out 0).trans rfl; have hfz19_0 := blk_frozen BK576.out 0) | ((with_reducible refine gate_callee (f := 17) rfl ?_); refine goesL_ (some 21) rfl rfl Try.func17 (by kernel_rfl) rfl #[.agg #[.slice A0_0 l0_0.length c0_0]] rfl (by (try simp only [List.map_toArray, List.map_cons, List.map_nil]); first | done | rfl | (simp only [List.length_drop, List.length_take]; rfl)) ?_; (with_reducible refine (laws_toTrie.calls k _ _ l0_0 t583 _ ?side1 ?side2 A9.out).mono ?_); (case side1 => repeat (first | exact (Kd.C_below HR0_0.out HB.out) | (with_reducible refine Kd.C_alloc ?_ _) | (with_reducible refine Kd.C_drewN ?_ _) | (with_reducible refine Kd.C_drew ?_))); (case side2 => exact HC0_0.out); rintro e w20 ⟨v584, rfl, ho0, hb⟩; refine ⟨_, rfl, ?_⟩; have n0_ := Aside0.mk (Kd.R_elder' (by (with_reducible repeat (first | apply Kd.R_alloc | apply Kd.R_drewN | apply Kd.R_drew)); exact HO580.out) (Kd.R_base ho0) hb); have n1_ := Aside0.mk (Kd.R_lower (Kd.R_new' ho0 (Kd.R_lt (by (with_reducible repeat (first | apply Kd.R_alloc | apply Kd.R_drewN | apply Kd.R_drew)); exact HO580.out))) (below_size (by repeat (first | (with_reducible first | exact HB.out | apply below_alloc | apply pw_below_drewN | apply below_drew1 | refine below_set ?_ GE576.out) | exact HB.out)))); have n2_ := Aside0.mk (blk_below (g := gb576) (o := .cells #[.slice A0_0 l0_0.length c0_0] 24 (0, 0)) (by (with_reducible repeat (first | refine blk_drewN ?_ _ | refine blk_drew ?_ | refine blk_alloc ?_ _)); exact BK576.out) hb); have n3_ := Aside0.mk (below_step (by repeat (first | (with_reducible first | exact HB.out | apply below_alloc | apply pw_below_drewN | apply below_drew1 | refine below_set ?_ GE576.out) | exact HB.out)) hb); clear HO580; clear BK576; clear HB; have HO580 := n0_; have HO585 := n1_; have BK576 := n2_; have HB := n3_; clear n0_ n1_ n2_ n3_; (try clear hb); (try clear hb2); (try clear hk); (try clear hi); (try clear ho0)) | ((with_reducible refine gate_dst (N := 6) rfl ?_); refine box_event ?hg (N := 6) ?hd (cs := #[.slice none 0 0]) (t := 29) ?hr ?_; (case hd => rfl); (case hg => rfl); (case hr => first | (go_simp; done) | (go_simp; rfl)); intro gb586 hg w21 hbox hb; have n0_ := Aside0.mk (Kd.R_below (by (with_reducible repeat (first | apply Kd.R_alloc | apply Kd.R_drewN | apply Kd.R_drew)); exact HO580.out) hb); have n1_ := Aside0.mk (Kd.R_below (by (with_reducible repeat (first | apply Kd.R_alloc | apply Kd.R_drewN | apply Kd.R_drew)); exact HO585.out) hb); have n2_ := Aside0.mk (blk_below (g := gb576) (o := .cells #[.slice A0_0 l0_0.length c0_0] 24 (0, 0)) (by (with_reducible repeat (first | refine blk_drewN ?_ _ | refine blk_drew ?_ | refine blk_alloc ?_ _)); exact BK576.out) hb); have n3_ := Aside0.mk (below_step (by repeat (first | (with_reducible first | exact HB.out | apply below_alloc | apply pw_below_drewN | apply below_drew1 | refine below_set ?_ GE576.out) | exact HB.out)) hb); have n4_ := Aside0.mk (hbox); have n5_ := Aside0.mk ((by rw [hg]; exact (below_size (by repeat (first | (with_reducible first | exact HB.out | apply below_alloc | apply pw_below_drewN | apply below_drew1 | refine below_set ?_ GE576.out) | exact HB.out))) : w.heap.size ≤ gb586)); have n6_ := Aside0.mk ((by rw [hg]; exact (below_size (by repeat (first | (with_reducible first | exact HB.out | apply below_alloc | apply pw_below_drewN | apply below_drew1 | refine below_set ?_ GE576.out) | exact HB.out))) : w.heap.size ≤ gb586)); have n7_ := Aside0.mk ((by rw [hg]; exact Nat.ne_of_lt (blk_lt (g := gb576) (o := .cells #[.slice A0_0 l0_0.length c0_0] 24 (0, 0)) (by (with_reducible repeat (first | refine blk_drewN ?_ _ | refine blk_drew ?_ | refine blk_alloc ?_ _)); exact BK576.out)) : gb576 ≠ gb586)); have n8_ := Aside0.mk ((by rw [hg]; exact Nat.ne_of_gt (blk_lt (g := gb576) (o := .cells #[.slice A0_0 l0_0.length c0_0] 24 (0, 0)) (by (with_reducible repeat (first | refine blk_drewN ?_ _ | refine blk_drew ?_ | refine blk_alloc ?_ _)); exact BK576.out)) : gb586 ≠ gb576)); clear HO580; clear HO585; clear BK576; clear HB; have HO580 := n0_; have HO585 := n1_; have BK576 := n2_; have HB := n3_; have BK586 := n4_; have GW586 := n5_; have GE586 := n6_; have NB576_586 := n7_; have NB586_576 := n8_; clear n0_ n1_ n2_ n3_ n4_ n5_ n6_ n7_ n8_; clear hb hbox hg; obtain ⟨Ao22, co22, eo22⟩ := Kd.R_slice HO585.out; subst eo22; have hnb23 := NB586_576.out; have hnc23 := NB576_586.out; have hcz24_0 : w21.cell? ⟨gb586, 0, none⟩ = some (.slice none 0 0) := (blk_cell BK586.out 0).trans rfl; have hfz24_0 := blk_frozen BK586.out 0) | ((with_reducible refine gate_callee (f := 37) rfl ?_); refine goesL_ (some 24) rfl rfl Try.func37 (by kernel_rfl) rfl #[.agg #[.slice Ao22 t583.length co22]] rfl (by (try simp only [List.map_toArray, List.map_cons, List.map_nil]); first | done | rfl | (simp only [List.length_drop, List.length_take]; rfl)) ?_; (with_reducible refine (impl_TrieText.calls k _ _ t583 t587 t588 _ ?side1 ?side2 A10.out).mono ?_); (case side1 => refine (Kd.R_reads' (e := 79) (base := w.heap.size) (ok := fun k_ => (True ∧ some k_ ≠ (.slice Ao17 t578.length co17 : Value).ownBlock)) (n := t583.length) (c := co22) ?_).2.2; exact (by (with_reducible repeat (first | apply Kd.R_alloc | apply Kd.R_drewN | apply Kd.R_drew)); exact (Kd.R_mono (R_same_ (Kd.R_far (p := ⟨gb586, 0, none⟩) (Kd.R_types HO585.out BK586.out (by decide)) (fun _ hk => hk.2) (.slice Ao22 t583.length co22)) rfl) (fun _ h_ => h_.1)))); (case side2 => exact (Kd.R_reads' HO585.out).2.1); rintro e w25 ⟨rfl, hb⟩; refine ⟨_, rfl, ?_⟩; have n0_ := Aside0.mk (Kd.R_below (by (with_reducible repeat (first | apply Kd.R_alloc | apply Kd.R_drewN | apply Kd.R_drew)); exact (Kd.R_mono (R_same_ (Kd.R_far (p := ⟨gb586, 0, none⟩) (Kd.R_types HO580.out BK586.out (by decide)) (fun _ hk => hk.2) (.slice Ao22 t583.length co22)) rfl) (fun _ h_ => h_.1))) hb); have n1_ := Aside0.mk (Kd.R_below (by (with_reducible repeat (first | apply Kd.R_alloc | apply Kd.R_drewN | apply Kd.R_drew)); exact (Kd.R_mono (R_same_ (Kd.R_far (p := ⟨gb586, 0, none⟩) (Kd.R_types HO585.out BK586.out (by decide)) (fun _ hk => hk.2) (.slice Ao22 t583.length co22)) rfl) (fun _ h_ => h_.1))) hb); have n2_ := Aside0.mk (blk_below (g := gb576) (o := .cells #[.slice A0_0 l0_0.length c0_0] 24 (0, 0)) (by (with_reducible repeat (first | refine blk_drewN ?_ _ | refine blk_drew ?_ | refine blk_alloc ?_ _)); refine blk_far ?_ NB576_586.out _; (with_reducible repeat (first | refine blk_drewN ?_ _ | refine blk_drew ?_ | refine blk_alloc ?_ _)); exact BK576.out) hb); have n3_ := Aside0.mk (blk_below (g := gb586) (o := .cells #[.slice Ao22 t583.length co22] 29 (0, 0)) (by (with_reducible repeat (first | refine blk_drewN ?_ _ | refine blk_drew ?_ | refine blk_alloc ?_ _)); refine blk_put (cs := #[.slice none 0 0]) ?_ 0 _ rfl; (with_reducible repeat (first | refine blk_drewN ?_ _ | refine blk_drew ?_ | refine blk_alloc ?_ _)); exact BK586.out) hb); have n4_ := Aside0.mk (below_step (by repeat (first | (with_reducible first | exact HB.out | apply below_alloc | apply pw_below_drewN | apply below_drew1 | refine below_set ?_ GE576.out | refine below_set ?_ GE586.out) | exact HB.out)) hb); clear HO580; clear HO585; clear BK576; clear BK586; clear HB; have HO580 := n0_; have HO585 := n1_; have BK576 := n2_; have BK586 := n3_; have HB := n4_; clear n0_ n1_ n2_ n3_ n4_; (try clear hb); (try clear hb2); (try clear hk); (try clear hi)))
    (try simp only [Act.put, List.setIfInBounds_toArray, List.set_cons_zero, List.set_cons_succ])
    go_cut [34] (fun v34 wc => ∃ (kq : Nat) (x34_10 : Bool), v34 = .bool x34_10 ∧ Aside0 (laws_FnExactTrieText.j0 kq x34_10 l0_0 t583 = some r) ∧ Aside0 (kq ≤ k) ∧ Aside0 (Kd.R k79 79 wc w.heap.size (fun _ => True) (.slice Ao22 t583.length co22) t583) ∧ Aside0 (wc.heap[gb576]? = some (.cells #[(.slice A0_0 l0_0.length c0_0)] 24 (0, 0))) ∧ Aside0 (wc.heap[gb586]? = some (.cells #[(.slice Ao22 t583.length co22)] 29 (0, 0))) ∧ Aside0 (Below w.heap.size w wc))
    case first =>
      have H := HC11.out
      clear HC11
      by_cases c26 : t587.toList = t581.toList
      · rw [if_pos c26] at H
        have c26b0 : (t587.toList == t581.toList) = true := beq_iff_eq.mpr c26
        have c26b1 : (t587.toList != t581.toList) = false := bne_eq_false_iff_eq.mpr c26
        clear c26
        (first | rw [c26b0] | (simp only [i64_w, i32_w]; rw [c26b0]) | skip)
        have H' := Aside0.mk H
        clear H
        go_wp2
        go_meet
        case rel => exact ⟨_, ((t588 != t582)), (by first | rfl | (simp; done) | (simp [*]; done)), H', ⟨by first | omega | exact Nat.le_refl _⟩, ⟨by (with_reducible repeat (first | apply Kd.R_alloc | apply Kd.R_drewN | apply Kd.R_drew)); exact Kd.R_mono HO585.out (fun _ hk => trivial)⟩, ⟨by (with_reducible repeat (first | refine blk_drewN ?_ _ | refine blk_drew ?_ | refine blk_alloc ?_ _)); exact BK576.out⟩, ⟨by (with_reducible repeat (first | refine blk_drewN ?_ _ | refine blk_drew ?_ | refine blk_alloc ?_ _)); exact BK586.out⟩, ⟨by repeat (first | (with_reducible first | exact HB.out | apply below_alloc | apply pw_below_drewN | apply below_drew1 | refine below_set ?_ GE576.out | refine below_set ?_ GE586.out) | exact HB.out)⟩⟩
      · rw [if_neg c26] at H
        have c26b0 : (t587.toList == t581.toList) = false := beq_eq_false_iff_ne.mpr c26
        have c26b1 : (t587.toList != t581.toList) = true := bne_iff_ne.mpr c26
        (first | rw [c26b0] | (simp only [i64_w, i32_w]; rw [c26b0]) | skip)
        have H' := Aside0.mk H
        clear H
        go_wp2
        go_meet
        case rel => exact ⟨_, (true), (by first | rfl | (simp; done) | (simp [*]; done)), H', ⟨by first | omega | exact Nat.le_refl _⟩, ⟨by (with_reducible repeat (first | apply Kd.R_alloc | apply Kd.R_drewN | apply Kd.R_drew)); exact Kd.R_mono HO585.out (fun _ hk => trivial)⟩, ⟨by (with_reducible repeat (first | refine blk_drewN ?_ _ | refine blk_drew ?_ | refine blk_alloc ?_ _)); exact BK576.out⟩, ⟨by (with_reducible repeat (first | refine blk_drewN ?_ _ | refine blk_drew ?_ | refine blk_alloc ?_ _)); exact BK586.out⟩, ⟨by repeat (first | (with_reducible first | exact HB.out | apply below_alloc | apply pw_below_drewN | apply below_drew1 | refine below_set ?_ GE576.out | refine below_set ?_ GE586.out) | exact HB.out)⟩⟩
    case rest =>
      clear HC11
      try clear c1
      try clear c2
      try clear p2
      try clear c3
      try clear c3b0
      try clear c11
      try clear c15
      try clear c17
      try clear c23
      try clear c26
      try clear c26b0
      try clear c26b1
      try clear hcz13_0
      try clear hcz15_0
      try clear hcz19_0
      try clear hcz24_0
      try clear hcz5_0
      try clear hfz13_0
      try clear hfz15_0
      try clear hfz19_0
      try clear hfz24_0
      try clear hfz5_0
      obtain ⟨kq, x34_10, rfl, HA, HJ10, HO_587000, BK576, BK586, HB⟩ := hcut
      cases kq with
      | zero => exact absurd HA.out (by simp [laws_FnExactTrieText.j0])
      | succ kj10 =>
        have H := HA.out
        clear HA
        simp only [laws_FnExactTrieText.j0] at H
        by_cases c27 : x34_10 = true
        · subst c27
          have H1 : (some false) = some r := by rw [if_pos rfl] at H; exact H
          clear H
          have H := H1
          clear H1
          obtain rfl := Option.some.inj H
          go_wp2
          go_ret
          exact ⟨by first | rfl | (simp [errW_none, errW_some] <;> rfl) | (simp [*, errW_none, errW_some] <;> rfl), by repeat (first | (with_reducible first | exact HB.out | apply below_alloc | apply pw_below_drewN | apply below_drew1 | refine below_set ?_ GE576.out | refine below_set ?_ GE586.out) | exact HB.out)⟩
        · replace c27 := Bool.eq_false_iff.mpr c27
          subst c27
          have H1 : ((laws_toTrie.f kj10 l0_0).bind fun t589 => ((laws_eqTrie.f kj10 t583 t589).bind fun t592 => (if t592 = true then (some true) else (some false)))) = some r := by rw [if_neg (show ¬ (false = true) by decide)] at H; exact H
          clear H
          have H := H1
          clear H1
          replace H := Option.bind_eq_some_iff.mp H
          obtain ⟨t589, A280, H⟩ := H
          replace H : ((laws_eqTrie.f kj10 t583 t589).bind fun t592 => (if t592 = true then (some true) else (some false))) = some r := H
          have A28 := Aside0.mk A280
          clear A280
          replace H := Option.bind_eq_some_iff.mp H
          obtain ⟨t592, A290, H⟩ := H
          replace H : (if t592 = true then (some true) else (some false)) = some r := H
          have A29 := Aside0.mk A290
          clear A290
          by_cases c30 : t592 = true
          · subst c30
            have H1 : (some true) = some r := by rw [if_pos rfl] at H; exact H
            clear H
            have H := H1
            clear H1
            obtain rfl := Option.some.inj H
            try go_wp2
            have n0_ := Aside0.mk (Kd.R_drew HO_587000.out)
            have n1_ := Aside0.mk (blk_drew BK576.out)
            have n2_ := Aside0.mk (blk_drew BK586.out)
            have n3_ := Aside0.mk (below_drew1 HB.out)
            clear HO_587000
            clear BK576
            clear BK586
            clear HB
            have HO_587000 := n0_
            have BK576 := n1_
            have BK586 := n2_
            have HB := n3_
            clear n0_ n1_ n2_ n3_
            refine start_ (n := 5) (S := fun w' => w'.cell? ⟨gb586, 0, none⟩ = some (.slice Ao22 t583.length co22) ∧ w'.cell? ⟨gb576, 0, none⟩ = some (.slice A0_0 l0_0.length c0_0)) (ds := []) #[false, false, false, false, false] (by kernel_rfl) rfl rfl ⟨(blk_cell BK586.out 0).trans rfl, (blk_cell BK576.out 0).trans rfl⟩ (fun hHeld => ?_)
            generalize wc.drew = w31 at HO_587000 BK576 BK586 HB hHeld ⊢
            refine take_ (i := 0) (N := some 35) (v := ?_) (a' := ?_) #[true, false, false, false, false] rfl rfl (by kernel_rfl) (fun _ _ _ h => h) (Or.inl ⟨by rfl, ?_⟩) hHeld ?_ ?_
            rotate_left
            · rintro w' ⟨s0, s1⟩
              go_simp
              with_reducible rfl
            rotate_left
            · simp only [Act.put, List.setIfInBounds_toArray, List.set_cons_zero, List.set_cons_succ, i64_w, i32_w]
              rfl
            refine take_ (i := 1) (N := some 36) (v := ?_) (a' := ?_) #[true, true, false, false, false] rfl rfl (by kernel_rfl) (fun _ _ _ h => h) (Or.inl ⟨by rfl, ?_⟩) hHeld ?_ ?_
            rotate_left
            · rintro w' ⟨s0, s1⟩
              go_simp
              with_reducible rfl
            rotate_left
            · simp only [Act.put, List.setIfInBounds_toArray, List.set_cons_zero, List.set_cons_succ, i64_w, i32_w]
              rfl
            refine one_ (i := 2) (N := some 37) #[true, true, true, false, false] rfl rfl (by kernel_rfl) (by decide) (fun K hK => ?_)
            refine goes_ Try.func17 (by kernel_rfl) rfl #[.agg #[.slice A0_0 l0_0.length c0_0]] (by rfl) rfl rfl (by (try simp only [List.map_toArray, List.map_cons, List.map_nil]); first | done | rfl | (simp only [List.length_drop, List.length_take]; rfl)) ?_
            with_reducible refine (laws_toTrie.calls kj10 _ _ l0_0 t589 _ ?side1 ?side2 A28.out).mono ?_
            (case side1 => repeat (first | exact (Kd.C_below HR0_0.out HB.out) | (with_reducible refine Kd.C_alloc ?_ _) | (with_reducible refine Kd.C_drewN ?_ _) | (with_reducible refine Kd.C_drew ?_)))
            (case side2 => exact HC0_0.out)
            rintro e w32 ⟨v590, rfl, ho0, hb⟩
            refine ⟨_, rfl, ?_⟩
            have n0_ := Aside0.mk (Kd.R_elder' (by (with_reducible repeat (first | apply Kd.R_alloc | apply Kd.R_drewN | apply Kd.R_drew)); exact HO_587000.out) (Kd.R_base ho0) hb)
            have n1_ := Aside0.mk (Kd.R_lower (Kd.R_new' ho0 (Kd.R_lt (by (with_reducible repeat (first | apply Kd.R_alloc | apply Kd.R_drewN | apply Kd.R_drew)); exact HO_587000.out))) (below_size (by repeat (first | (with_reducible first | exact HB.out | apply below_alloc | apply pw_below_drewN | apply below_drew1 | refine below_set ?_ GE576.out | refine below_set ?_ GE586.out) | exact HB.out))))
            have n2_ := Aside0.mk (blk_below (g := gb576) (o := .cells #[.slice A0_0 l0_0.length c0_0] 24 (0, 0)) (by (with_reducible repeat (first | refine blk_drewN ?_ _ | refine blk_drew ?_ | refine blk_alloc ?_ _)); exact BK576.out) hb)
            have n3_ := Aside0.mk (blk_below (g := gb586) (o := .cells #[.slice Ao22 t583.length co22] 29 (0, 0)) (by (with_reducible repeat (first | refine blk_drewN ?_ _ | refine blk_drew ?_ | refine blk_alloc ?_ _)); exact BK586.out) hb)
            have n4_ := Aside0.mk (below_step (by repeat (first | (with_reducible first | exact HB.out | apply below_alloc | apply pw_below_drewN | apply below_drew1 | refine below_set ?_ GE576.out | refine below_set ?_ GE586.out) | exact HB.out)) hb)
            clear HO_587000
            clear BK576
            clear BK586
            clear HB
            have HO_587000 := n0_
            have HO591 := n1_
            have BK576 := n2_
            have BK586 := n3_
            have HB := n4_
            clear n0_ n1_ n2_ n3_ n4_
            (try clear hb)
            (try clear hb2)
            (try clear hk)
            (try clear hi)
            (try clear ho0)
            obtain ⟨Ao33, co33, eo33⟩ := Kd.R_slice HO591.out
            (first | subst eo33 | (injection eo33 with f1_ f2_ f3_; have f4_ := f1_.symm; have f5_ := f3_.symm; clear f1_ f2_ f3_; subst f4_; subst f5_))
            refine hK.out _ _ ⟨(blk_cell BK586.out 0).trans rfl, (blk_cell BK576.out 0).trans rfl⟩ (fun hHeld => ?_)
            clear hK K
            refine norm_ (a' := ?_) ?_ ?_
            rotate_left
            · show Act.put _ (some 37) _ = _
              simp only [Act.put, List.setIfInBounds_toArray, List.set_cons_zero, List.set_cons_succ, i64_w, i32_w]
              rfl
            refine one_ (i := 3) (N := some 38) #[true, true, true, true, false] rfl rfl (by kernel_rfl) (by decide) (fun K hK => ?_)
            refine goes_ Try.func19 (by kernel_rfl) rfl #[.agg #[.slice Ao22 t583.length co22], .agg #[.slice Ao33 t589.length co33]] (by rfl) rfl rfl (by (try simp only [List.map_toArray, List.map_cons, List.map_nil]); first | done | rfl | (simp only [List.length_drop, List.length_take]; rfl)) ?_
            with_reducible refine (laws_eqTrie.calls kj10 _ _ t583 _ _ t589 true _ ?side1 ?side2 ?side3 ?side4 A29.out).mono ?_
            (case side1 => repeat (first | exact (Kd.R_reads' HO_587000.out).2.2 | (with_reducible refine Kd.C_alloc ?_ _) | (with_reducible refine Kd.C_drewN ?_ _) | (with_reducible refine Kd.C_drew ?_)))
            (case side2 => exact (Kd.R_reads' HO_587000.out).2.1)
            (case side3 => repeat (first | exact (Kd.R_reads' HO591.out).2.2 | (with_reducible refine Kd.C_alloc ?_ _) | (with_reducible refine Kd.C_drewN ?_ _) | (with_reducible refine Kd.C_drew ?_)))
            (case side4 => exact (Kd.R_reads' HO591.out).2.1)
            rintro e w34 ⟨rfl, hb⟩
            refine ⟨_, rfl, ?_⟩
            have n0_ := Aside0.mk (Kd.R_below (by (with_reducible repeat (first | apply Kd.R_alloc | apply Kd.R_drewN | apply Kd.R_drew)); exact HO_587000.out) hb)
            have n1_ := Aside0.mk (Kd.R_below (by (with_reducible repeat (first | apply Kd.R_alloc | apply Kd.R_drewN | apply Kd.R_drew)); exact HO591.out) hb)
            have n2_ := Aside0.mk (blk_below (g := gb576) (o := .cells #[.slice A0_0 l0_0.length c0_0] 24 (0, 0)) (by (with_reducible repeat (first | refine blk_drewN ?_ _ | refine blk_drew ?_ | refine blk_alloc ?_ _)); exact BK576.out) hb)
            have n3_ := Aside0.mk (blk_below (g := gb586) (o := .cells #[.slice Ao22 t583.length co22] 29 (0, 0)) (by (with_reducible repeat (first | refine blk_drewN ?_ _ | refine blk_drew ?_ | refine blk_alloc ?_ _)); exact BK586.out) hb)
            have n4_ := Aside0.mk (below_step (by repeat (first | (with_reducible first | exact HB.out | apply below_alloc | apply pw_below_drewN | apply below_drew1 | refine below_set ?_ GE576.out | refine below_set ?_ GE586.out) | exact HB.out)) hb)
            clear HO_587000
            clear HO591
            clear BK576
            clear BK586
            clear HB
            have HO_587000 := n0_
            have HO591 := n1_
            have BK576 := n2_
            have BK586 := n3_
            have HB := n4_
            clear n0_ n1_ n2_ n3_ n4_
            (try clear hb)
            (try clear hb2)
            (try clear hk)
            (try clear hi)
            refine hK.out _ _ ⟨(blk_cell BK586.out 0).trans rfl, (blk_cell BK576.out 0).trans rfl⟩ (fun hHeld => ?_)
            clear hK K
            refine norm_ (a' := ?_) ?_ ?_
            rotate_left
            · show Act.put _ (some 38) _ = _
              simp only [Act.put, List.setIfInBounds_toArray, List.set_cons_zero, List.set_cons_succ, i64_w, i32_w]
              rfl
            refine pure_ (i := 4) (N := some 39) (v := ?_) (a' := ?_) #[true, true, true, true, true] rfl rfl (by kernel_rfl) (fun _ _ _ h => h) (Or.inl ⟨by rfl, ?_⟩) ?_ ?_
            rotate_left
            · intro w'
              go_simp
              with_reducible rfl
            rotate_left
            · simp only [Act.put, List.setIfInBounds_toArray, List.set_cons_zero, List.set_cons_succ, i64_w, i32_w]
              rfl
            refine done_ (by kernel_rfl) ?_
            try go_wp2
            go_ret
            exact ⟨by first | rfl | (simp [errW_none, errW_some] <;> rfl) | (simp [*, errW_none, errW_some] <;> rfl), by repeat (first | (with_reducible first | exact HB.out | apply below_alloc | apply pw_below_drewN | apply below_drew1 | refine below_set ?_ GE576.out | refine below_set ?_ GE586.out) | exact HB.out)⟩
          · replace c30 := Bool.eq_false_iff.mpr c30
            subst c30
            have H1 : (some false) = some r := by rw [if_neg (show ¬ (false = true) by decide)] at H; exact H
            clear H
            have H := H1
            clear H1
            obtain rfl := Option.some.inj H
            try go_wp2
            have n0_ := Aside0.mk (Kd.R_drew HO_587000.out)
            have n1_ := Aside0.mk (blk_drew BK576.out)
            have n2_ := Aside0.mk (blk_drew BK586.out)
            have n3_ := Aside0.mk (below_drew1 HB.out)
            clear HO_587000
            clear BK576
            clear BK586
            clear HB
            have HO_587000 := n0_
            have BK576 := n1_
            have BK586 := n2_
            have HB := n3_
            clear n0_ n1_ n2_ n3_
            refine start_ (n := 5) (S := fun w' => w'.cell? ⟨gb586, 0, none⟩ = some (.slice Ao22 t583.length co22) ∧ w'.cell? ⟨gb576, 0, none⟩ = some (.slice A0_0 l0_0.length c0_0)) (ds := []) #[false, false, false, false, false] (by kernel_rfl) rfl rfl ⟨(blk_cell BK586.out 0).trans rfl, (blk_cell BK576.out 0).trans rfl⟩ (fun hHeld => ?_)
            generalize wc.drew = w35 at HO_587000 BK576 BK586 HB hHeld ⊢
            refine take_ (i := 0) (N := some 35) (v := ?_) (a' := ?_) #[true, false, false, false, false] rfl rfl (by kernel_rfl) (fun _ _ _ h => h) (Or.inl ⟨by rfl, ?_⟩) hHeld ?_ ?_
            rotate_left
            · rintro w' ⟨s0, s1⟩
              go_simp
              with_reducible rfl
            rotate_left
            · simp only [Act.put, List.setIfInBounds_toArray, List.set_cons_zero, List.set_cons_succ, i64_w, i32_w]
              rfl
            refine take_ (i := 1) (N := some 36) (v := ?_) (a' := ?_) #[true, true, false, false, false] rfl rfl (by kernel_rfl) (fun _ _ _ h => h) (Or.inl ⟨by rfl, ?_⟩) hHeld ?_ ?_
            rotate_left
            · rintro w' ⟨s0, s1⟩
              go_simp
              with_reducible rfl
            rotate_left
            · simp only [Act.put, List.setIfInBounds_toArray, List.set_cons_zero, List.set_cons_succ, i64_w, i32_w]
              rfl
            refine one_ (i := 2) (N := some 37) #[true, true, true, false, false] rfl rfl (by kernel_rfl) (by decide) (fun K hK => ?_)
            refine goes_ Try.func17 (by kernel_rfl) rfl #[.agg #[.slice A0_0 l0_0.length c0_0]] (by rfl) rfl rfl (by (try simp only [List.map_toArray, List.map_cons, List.map_nil]); first | done | rfl | (simp only [List.length_drop, List.length_take]; rfl)) ?_
            with_reducible refine (laws_toTrie.calls kj10 _ _ l0_0 t589 _ ?side1 ?side2 A28.out).mono ?_
            (case side1 => repeat (first | exact (Kd.C_below HR0_0.out HB.out) | (with_reducible refine Kd.C_alloc ?_ _) | (with_reducible refine Kd.C_drewN ?_ _) | (with_reducible refine Kd.C_drew ?_)))
            (case side2 => exact HC0_0.out)
            rintro e w36 ⟨v590, rfl, ho0, hb⟩
            refine ⟨_, rfl, ?_⟩
            have n0_ := Aside0.mk (Kd.R_elder' (by (with_reducible repeat (first | apply Kd.R_alloc | apply Kd.R_drewN | apply Kd.R_drew)); exact HO_587000.out) (Kd.R_base ho0) hb)
            have n1_ := Aside0.mk (Kd.R_lower (Kd.R_new' ho0 (Kd.R_lt (by (with_reducible repeat (first | apply Kd.R_alloc | apply Kd.R_drewN | apply Kd.R_drew)); exact HO_587000.out))) (below_size (by repeat (first | (with_reducible first | exact HB.out | apply below_alloc | apply pw_below_drewN | apply below_drew1 | refine below_set ?_ GE576.out | refine below_set ?_ GE586.out) | exact HB.out))))
            have n2_ := Aside0.mk (blk_below (g := gb576) (o := .cells #[.slice A0_0 l0_0.length c0_0] 24 (0, 0)) (by (with_reducible repeat (first | refine blk_drewN ?_ _ | refine blk_drew ?_ | refine blk_alloc ?_ _)); exact BK576.out) hb)
            have n3_ := Aside0.mk (blk_below (g := gb586) (o := .cells #[.slice Ao22 t583.length co22] 29 (0, 0)) (by (with_reducible repeat (first | refine blk_drewN ?_ _ | refine blk_drew ?_ | refine blk_alloc ?_ _)); exact BK586.out) hb)
            have n4_ := Aside0.mk (below_step (by repeat (first | (with_reducible first | exact HB.out | apply below_alloc | apply pw_below_drewN | apply below_drew1 | refine below_set ?_ GE576.out | refine below_set ?_ GE586.out) | exact HB.out)) hb)
            clear HO_587000
            clear BK576
            clear BK586
            clear HB
            have HO_587000 := n0_
            have HO591 := n1_
            have BK576 := n2_
            have BK586 := n3_
            have HB := n4_
            clear n0_ n1_ n2_ n3_ n4_
            (try clear hb)
            (try clear hb2)
            (try clear hk)
            (try clear hi)
            (try clear ho0)
            obtain ⟨Ao37, co37, eo37⟩ := Kd.R_slice HO591.out
            (first | subst eo37 | (injection eo37 with f1_ f2_ f3_; have f4_ := f1_.symm; have f5_ := f3_.symm; clear f1_ f2_ f3_; subst f4_; subst f5_))
            refine hK.out _ _ ⟨(blk_cell BK586.out 0).trans rfl, (blk_cell BK576.out 0).trans rfl⟩ (fun hHeld => ?_)
            clear hK K
            refine norm_ (a' := ?_) ?_ ?_
            rotate_left
            · show Act.put _ (some 37) _ = _
              simp only [Act.put, List.setIfInBounds_toArray, List.set_cons_zero, List.set_cons_succ, i64_w, i32_w]
              rfl
            refine one_ (i := 3) (N := some 38) #[true, true, true, true, false] rfl rfl (by kernel_rfl) (by decide) (fun K hK => ?_)
            refine goes_ Try.func19 (by kernel_rfl) rfl #[.agg #[.slice Ao22 t583.length co22], .agg #[.slice Ao37 t589.length co37]] (by rfl) rfl rfl (by (try simp only [List.map_toArray, List.map_cons, List.map_nil]); first | done | rfl | (simp only [List.length_drop, List.length_take]; rfl)) ?_
            with_reducible refine (laws_eqTrie.calls kj10 _ _ t583 _ _ t589 false _ ?side1 ?side2 ?side3 ?side4 A29.out).mono ?_
            (case side1 => repeat (first | exact (Kd.R_reads' HO_587000.out).2.2 | (with_reducible refine Kd.C_alloc ?_ _) | (with_reducible refine Kd.C_drewN ?_ _) | (with_reducible refine Kd.C_drew ?_)))
            (case side2 => exact (Kd.R_reads' HO_587000.out).2.1)
            (case side3 => repeat (first | exact (Kd.R_reads' HO591.out).2.2 | (with_reducible refine Kd.C_alloc ?_ _) | (with_reducible refine Kd.C_drewN ?_ _) | (with_reducible refine Kd.C_drew ?_)))
            (case side4 => exact (Kd.R_reads' HO591.out).2.1)
            rintro e w38 ⟨rfl, hb⟩
            refine ⟨_, rfl, ?_⟩
            have n0_ := Aside0.mk (Kd.R_below (by (with_reducible repeat (first | apply Kd.R_alloc | apply Kd.R_drewN | apply Kd.R_drew)); exact HO_587000.out) hb)
            have n1_ := Aside0.mk (Kd.R_below (by (with_reducible repeat (first | apply Kd.R_alloc | apply Kd.R_drewN | apply Kd.R_drew)); exact HO591.out) hb)
            have n2_ := Aside0.mk (blk_below (g := gb576) (o := .cells #[.slice A0_0 l0_0.length c0_0] 24 (0, 0)) (by (with_reducible repeat (first | refine blk_drewN ?_ _ | refine blk_drew ?_ | refine blk_alloc ?_ _)); exact BK576.out) hb)
            have n3_ := Aside0.mk (blk_below (g := gb586) (o := .cells #[.slice Ao22 t583.length co22] 29 (0, 0)) (by (with_reducible repeat (first | refine blk_drewN ?_ _ | refine blk_drew ?_ | refine blk_alloc ?_ _)); exact BK586.out) hb)
            have n4_ := Aside0.mk (below_step (by repeat (first | (with_reducible first | exact HB.out | apply below_alloc | apply pw_below_drewN | apply below_drew1 | refine below_set ?_ GE576.out | refine below_set ?_ GE586.out) | exact HB.out)) hb)
            clear HO_587000
            clear HO591
            clear BK576
            clear BK586
            clear HB
            have HO_587000 := n0_
            have HO591 := n1_
            have BK576 := n2_
            have BK586 := n3_
            have HB := n4_
            clear n0_ n1_ n2_ n3_ n4_
            (try clear hb)
            (try clear hb2)
            (try clear hk)
            (try clear hi)
            refine hK.out _ _ ⟨(blk_cell BK586.out 0).trans rfl, (blk_cell BK576.out 0).trans rfl⟩ (fun hHeld => ?_)
            clear hK K
            refine norm_ (a' := ?_) ?_ ?_
            rotate_left
            · show Act.put _ (some 38) _ = _
              simp only [Act.put, List.setIfInBounds_toArray, List.set_cons_zero, List.set_cons_succ, i64_w, i32_w]
              rfl
            refine pure_ (i := 4) (N := some 39) (v := ?_) (a' := ?_) #[true, true, true, true, true] rfl rfl (by kernel_rfl) (fun _ _ _ h => h) (Or.inl ⟨by rfl, ?_⟩) ?_ ?_
            rotate_left
            · intro w'
              go_simp
              with_reducible rfl
            rotate_left
            · simp only [Act.put, List.setIfInBounds_toArray, List.set_cons_zero, List.set_cons_succ, i64_w, i32_w]
              rfl
            refine done_ (by kernel_rfl) ?_
            try go_wp2
            go_ret
            exact ⟨by first | rfl | (simp [errW_none, errW_some] <;> rfl) | (simp [*, errW_none, errW_some] <;> rfl), by repeat (first | (with_reducible first | exact HB.out | apply below_alloc | apply pw_below_drewN | apply below_drew1 | refine below_set ?_ GE576.out | refine below_set ?_ GE586.out) | exact HB.out)⟩
end Go.Proofs.Ytimjfgicihdhbaa.Q
namespace Go.Proofs.Ytimjfgicihdhbaa.Q
open Go.RowKit Go.Proofs.YtimjfgicihdhbaaW.PrintWords Go.Proofs.YtimjfgicihdhbaaW.PrintLast
theorem specKids_l0 (l : List IN) (a : Int) (hl : l.length ≤ 1048576) : ∀ (n i : Nat) (acc : List Int), i + n = l.length → acc.length ≤ i → Ev (fun k => spec_l2Kids.l0 k a acc (i : Int) l) (acc ++ kidsF l a (List.range' i n)) := by
  intro n
  induction n with
  | zero =>
    intro i acc h ha
    refine Ev.succ ?_
    simp only [spec_l2Kids.l0, List.range'_zero, kidsF, List.append_nil]
    exact Ev.neg (by omega) (Ev.pure _)
  | succ n ih =>
    intro i acc h ha
    refine Ev.succ ?_
    simp only [spec_l2Kids.l0, List.range'_succ, kidsF]
    rw [wnext i (by omega)]
    refine Ev.pos (by omega) (Ev.pos (by omega) ?_)
    by_cases e : (rd_T79 l (i : Int)).f1 = a
    · rw [if_pos e]
      refine Ev.pos e (Ev.pos (by omega) ?_)
      have := ih (i + 1) (acc ++ [(i : Int)]) (by omega) (by simp; omega)
      simpa using this
    · rw [if_neg e]
      exact Ev.neg e (ih (i + 1) acc (by omega) (by omega))
theorem implKids_l0 (l : List IN) (a : Int) (hl : l.length ≤ 1048576) : ∀ (n i : Nat) (acc : List Int), i + n = l.length → acc.length ≤ i → Ev (fun k => impl_Trie_kids.l0 k a acc l (l.length : Int) (i : Int)) (acc ++ kidsF l a (List.range' i n)) := by
  intro n
  induction n with
  | zero =>
    intro i acc h ha
    refine Ev.succ ?_
    simp only [impl_Trie_kids.l0, List.range'_zero, kidsF, List.append_nil]
    exact Ev.neg (by omega) (Ev.pure _)
  | succ n ih =>
    intro i acc h ha
    refine Ev.succ ?_
    simp only [impl_Trie_kids.l0, List.range'_succ, kidsF]
    rw [wnext i (by omega)]
    refine Ev.pos (by omega) (Ev.pos (by omega) (Ev.pos (by omega) ?_))
    by_cases e : (rd_T79 l (i : Int)).f1 = a
    · rw [if_pos e]
      refine Ev.pos e (Ev.pos (by omega) ?_)
      have := ih (i + 1) (acc ++ [(i : Int)]) (by omega) (by simp; omega)
      simpa using this
    · rw [if_neg e]
      exact Ev.neg e (ih (i + 1) acc (by omega) (by omega))
theorem implKids (l : List IN) (a : Int) (hl : l.length ≤ 1048576) : Ev (fun k => impl_Trie_kids.f k l a) (kidsW l a) := by
  unfold impl_Trie_kids.f
  exact implKids_l0 l a hl l.length 0 [] (by omega) (Nat.le_refl _)
theorem specKids {ws : List ByteArray} (hv : VW ws) (a : Nat) (ha : a < (prefW ws).length) : Ev (fun k => spec_l2Kids.f k (trieW ws) (a : Int)) (kidsW (trieW ws) (a : Int)) := by
  have hn := trie_le hv
  have hn2 := trieW_length ws
  unfold spec_l2Kids.f
  rw [wnext a (by omega)]
  have := specKids_l0 (trieW ws) (a : Int) (by omega) ((trieW ws).length - (a + 1)) (a + 1) [] (by omega) (Nat.zero_le _)
  rw [List.nil_append] at this
  have e : kidsW (trieW ws) (a : Int) = kidsF (trieW ws) (a : Int) (List.range' (a + 1) ((trieW ws).length - (a + 1))) := by
    unfold kidsW
    have e2 : List.range' 0 (trieW ws).length = List.range' 0 (a + 1) ++ List.range' (a + 1) ((trieW ws).length - (a + 1)) := by
      have := List.range'_append_1 (s := 0) (m := a + 1) (n := (trieW ws).length - (a + 1))
      rw [Nat.zero_add] at this
      rw [this]
      congr 1
      omega
    rw [e2, kidsF_append, kidsF_nil _ _ (List.range' 0 (a + 1)), List.nil_append]
    intro i hi
    have hi2 := (List.mem_range'_1.1 hi).2
    have := par_lt hv.ok (i := i) (by omega)
    omega
  rw [e]
  exact this
end Go.Proofs.Ytimjfgicihdhbaa.Q
namespace Go.Proofs.Ytimjfgicihdhbaa.Q
open Go.RowKit Go.Proofs.YtimjfgicihdhbaaW.PrintWords Go.Proofs.YtimjfgicihdhbaaW.PrintLast
def baseX (l : List IN) (a : Int) : ByteArray := if a > 0 then letterW (rd_T79 l a).f0 else ⟨#[]⟩
def headX (l : List IN) (a : Int) : ByteArray := if (rd_T79 l a).f2 = true then baseX l a ++ ⟨#[46]⟩ else baseX l a
def textX (l : List IN) : Nat → Int → ByteArray
  | 0, _ => ByteArray.empty
  | n + 1, a => if (kidsW l a).length = 0 then headX l a else (kidsW l a).foldl (fun s x => s ++ textX l n x) (headX l a ++ ⟨#[40]⟩) ++ ⟨#[41]⟩
def bndX : Nat → Nat
  | 0 => 0
  | n + 1 => 4 + 26 * bndX n
theorem baseX_size (l : List IN) (a : Int) : (baseX l a).size ≤ 1 := by
  unfold baseX
  split
  · rw [letterW_size]; exact Nat.le_refl _
  · exact Nat.zero_le _
theorem headX_size (l : List IN) (a : Int) : (headX l a).size ≤ 2 := by
  have := baseX_size l a
  unfold headX
  split
  · rw [size_app]
    have e : (⟨#[46]⟩ : ByteArray).size = 1 := rfl
    omega
  · omega
theorem fold_size (T : Int → ByteArray) (B : Nat) : ∀ (ks : List Int) (s : ByteArray), (∀ x ∈ ks, (T x).size ≤ B) → (ks.foldl (fun s x => s ++ T x) s).size ≤ s.size + ks.length * B
  | [], s, _ => by simp
  | x :: ks, s, h => by
    have h1 := h x (List.mem_cons_self ..)
    have h2 := fold_size T B ks (s ++ T x) (fun y hy => h y (List.mem_cons_of_mem _ hy))
    rw [size_app] at h2
    simp only [List.foldl_cons, List.length_cons, Nat.succ_mul]
    omega
theorem asc_len : ∀ (l : List Int) (lo : Int), l.Pairwise (· < ·) → (∀ x ∈ l, lo ≤ x ∧ x ≤ 25) → (l.length : Int) ≤ max 0 (26 - lo)
  | [], lo, _, _ => by simp; omega
  | x :: l, lo, h, hb => by
    obtain ⟨h1, h2⟩ := List.pairwise_cons.1 h
    have h3 := hb x (List.mem_cons_self ..)
    have := asc_len l (x + 1) h2 (fun y hy => ⟨by have := h1 y hy; omega, (hb y (List.mem_cons_of_mem _ hy)).2⟩)
    simp only [List.length_cons]
    omega
theorem app_lt {p : ByteArray} {x y : Int} (hx : 0 ≤ x ∧ x ≤ 25) (hy : 0 ≤ y ∧ y ≤ 25) (h : lw (p ++ letterW x) < lw (p ++ letterW y)) : x < y := by
  rw [lw_app, lw_app] at h
  have h2 := (lt_drop (lw p).length (lw p ++ lw (letterW x)) (lw p ++ lw (letterW y)) (by simp)).1 h
  simp only [List.drop_left', lw_letterW _ hx.1 hx.2, lw_letterW _ hy.1 hy.2] at h2
  rw [List.cons_lt_cons_iff] at h2
  rcases h2 with h2 | ⟨_, h2⟩
  · have e := UInt8.lt_iff_toNat_lt.1 h2
    have hz : UInt8.size = 256 := rfl
    rw [UInt8.toNat_ofNat_of_lt' (by omega), UInt8.toNat_ofNat_of_lt' (by omega)] at e
    omega
  · exact absurd h2 (List.not_lt_nil _)
theorem kidsW_26 {ws : List ByteArray} (ho : ∀ w ∈ ws, okWord w) (a : Nat) : (kidsW (trieW ws) (a : Int)).length ≤ 26 := by
  have hm : ∀ x ∈ kidsW (trieW ws) (a : Int), 0 ≤ (rd_T79 (trieW ws) x).f0 ∧ (rd_T79 (trieW ws) x).f0 ≤ 25 := fun x hx => by
    obtain ⟨i, c, rfl, _, _, c0, c1, e, _⟩ := kidsW_mem ho hx
    rw [e]; exact ⟨c0, c1⟩
  have hp : ((kidsW (trieW ws) (a : Int)).map fun x => (rd_T79 (trieW ws) x).f0).Pairwise (· < ·) := by
    rw [List.pairwise_map]
    have h0 : (kidsW (trieW ws) (a : Int)).Pairwise (· < ·) := kidsF_asc List.pairwise_lt_range'
    refine (List.Pairwise.and_mem.1 h0).imp (fun {x y} h => ?_)
    obtain ⟨hx, hy, hlt⟩ := h
    obtain ⟨i, c, rfl, _, hi, c0, c1, e, ep⟩ := kidsW_mem ho hx
    obtain ⟨j, d, rfl, _, hj, d0, d1, e2, ep2⟩ := kidsW_mem ho hy
    have hs := ss_at (prefW_ss ws) (show i < j by omega) hj
    rw [ep, ep2] at hs
    rw [e, e2]
    exact app_lt ⟨c0, c1⟩ ⟨d0, d1⟩ hs
  have := asc_len _ 0 hp (fun x hx => by
    obtain ⟨y, hy, rfl⟩ := List.mem_map.1 hx
    exact hm y hy)
  rw [List.length_map] at this
  omega
theorem textX_size {ws : List ByteArray} (ho : ∀ w ∈ ws, okWord w) : ∀ (n a : Nat), (textX (trieW ws) n (a : Int)).size ≤ bndX n := by
  intro n
  induction n with
  | zero => intro a; exact Nat.zero_le _
  | succ n ih =>
    intro a
    have hh := headX_size (trieW ws) (a : Int)
    have hk := kidsW_26 ho a
    have e1 : (⟨#[40]⟩ : ByteArray).size = 1 := rfl
    have e2 : (⟨#[41]⟩ : ByteArray).size = 1 := rfl
    simp only [textX, bndX]
    split
    · omega
    · rw [size_app]
      have hf := fold_size (textX (trieW ws) n) (bndX n) (kidsW (trieW ws) (a : Int)) (headX (trieW ws) (a : Int) ++ ⟨#[40]⟩) (fun x hx => by
        obtain ⟨i, _, rfl, _⟩ := kidsW_mem ho hx
        exact ih i)
      rw [size_app] at hf
      have hm := Nat.mul_le_mul_right (bndX n) hk
      omega
theorem bndX_mono {m n : Nat} (h : m ≤ n) : bndX m ≤ bndX n := by
  induction h with
  | refl => exact Nat.le_refl _
  | step _ ih => simp only [bndX]; omega
theorem bndX_13 : bndX 13 ≤ 400000000000000000 := by decide
theorem rdI (ks : List Int) {i : Nat} (h : i < ks.length) : rd ks (i : Int) = ks[i] := by simp [rd, h]
theorem specText_l0 (l : List IN) (ks : List Int) (T : Int → ByteArray) (B : Nat) (hT : ∀ x ∈ ks, Ev (fun k => spec_l2Text.f k l x) (T x)) (hB : ∀ x ∈ ks, (T x).size ≤ B) (hl : ks.length ≤ 1048576) : ∀ (n i : Nat) (s : ByteArray), i + n = ks.length → s.size + n * B + 1 ≤ 9223372036854775807 →
    Ev (fun k => spec_l2Text.l0 k s ks (i : Int) l) ((ks.drop i).foldl (fun s x => s ++ T x) s ++ ⟨#[41]⟩) := by
  intro n
  induction n with
  | zero =>
    intro i s h hs
    refine Ev.succ ?_
    simp only [spec_l2Text.l0]
    rw [List.drop_of_length_le (by omega), List.foldl_nil]
    exact Ev.neg (by omega) (Ev.pos (by omega) (Ev.pure _))
  | succ n ih =>
    intro i s h hs
    refine Ev.succ ?_
    simp only [spec_l2Text.l0]
    have hi : i < ks.length := by omega
    have hm := List.getElem_mem hi
    have hb := hB _ hm
    rw [Nat.succ_mul] at hs
    rw [List.drop_eq_getElem_cons hi, List.foldl_cons, rdI ks hi, wnext i (by omega)]
    refine Ev.pos (by omega) (Ev.pos (by omega) (Ev.bind (hT _ hm) (Ev.pos (by omega) (ih (i + 1) _ (by omega) ?_))))
    rw [size_app]; omega
theorem implText_l0 (l : List IN) (ks : List Int) (T : Int → ByteArray) (B : Nat) (hT : ∀ x ∈ ks, Ev (fun k => impl_Trie_text.f k l x) (T x)) (hB : ∀ x ∈ ks, (T x).size ≤ B) (hl : ks.length ≤ 1048576) : ∀ (n i : Nat) (s : ByteArray), i + n = ks.length → s.size + n * B + 1 ≤ 9223372036854775807 →
    Ev (fun k => impl_Trie_text.l0 k s ks (ks.length : Int) (i : Int) l) ((ks.drop i).foldl (fun s x => s ++ T x) s ++ ⟨#[41]⟩) := by
  intro n
  induction n with
  | zero =>
    intro i s h hs
    refine Ev.succ ?_
    simp only [impl_Trie_text.l0]
    rw [List.drop_of_length_le (by omega), List.foldl_nil]
    exact Ev.neg (by omega) (Ev.pos (by omega) (Ev.pure _))
  | succ n ih =>
    intro i s h hs
    refine Ev.succ ?_
    simp only [impl_Trie_text.l0]
    have hi : i < ks.length := by omega
    have hm := List.getElem_mem hi
    have hb := hB _ hm
    rw [Nat.succ_mul] at hs
    rw [List.drop_eq_getElem_cons hi, List.foldl_cons, rdI ks hi, wnext i (by omega)]
    refine Ev.pos (by omega) (Ev.pos (by omega) (Ev.pos (by omega) (Ev.bind (hT _ hm) (Ev.pos (by omega) (ih (i + 1) _ (by omega) ?_)))))
    rw [size_app]; omega
theorem specText_ev {ws : List ByteArray} (hv : VW ws) : ∀ (n a : Nat), n ≤ 13 → a < (prefW ws).length → 13 ≤ (rdOf ByteArray.empty (prefW ws) (a : Int)).size + n → Ev (fun k => spec_l2Text.f k (trieW ws) (a : Int)) (textX (trieW ws) n (a : Int)) := by
  have hn := trie_le hv
  have hn2 := trieW_length ws
  intro n
  induction n with
  | zero =>
    intro a _ ha h
    have hm : rdOf ByteArray.empty (prefW ws) (a : Int) ∈ prefW ws := at_mem (by omega) (by omega)
    have := (prefW_ok hv.ok hm).1
    omega
  | succ n ih =>
    intro a hn13 ha h
    have hb := bndX_13
    have hbn := bndX_mono (show n + 1 ≤ 13 by omega)
    simp only [bndX] at hbn
    have hbase := baseX_size (trieW ws) (a : Int)
    have hhead := headX_size (trieW ws) (a : Int)
    have hk26 := kidsW_26 hv.ok a
    have e46 : (⟨#[46]⟩ : ByteArray).size = 1 := rfl
    have e40 : (⟨#[40]⟩ : ByteArray).size = 1 := rfl
    refine Ev.succ ?_
    simp only [spec_l2Text.f]
    refine Ev.bind (specKids hv a ha) ?_
    have key : Ev (fun k => spec_l2Text.j0 k (a : Int) (baseX (trieW ws) (a : Int)) (kidsW (trieW ws) (a : Int)) (trieW ws)) (textX (trieW ws) (n + 1) (a : Int)) := by
      refine Ev.succ ?_
      simp only [spec_l2Text.j0]
      have key2 : Ev (fun k => spec_l2Text.j1 k (headX (trieW ws) (a : Int)) (kidsW (trieW ws) (a : Int)) (trieW ws)) (textX (trieW ws) (n + 1) (a : Int)) := by
        refine Ev.succ ?_
        simp only [spec_l2Text.j1, textX]
        by_cases e : (kidsW (trieW ws) (a : Int)).length = 0
        · rw [if_pos e]; exact Ev.pos (by omega) (Ev.pure _)
        · rw [if_neg e]
          have hmul := Nat.mul_le_mul_right (bndX n) hk26
          refine Ev.neg (by omega) (Ev.pos (by omega) ?_)
          have := specText_l0 (trieW ws) (kidsW (trieW ws) (a : Int)) (textX (trieW ws) n) (bndX n) (fun x hx => ?_) (fun x hx => ?_) (by omega) _ 0 (headX (trieW ws) (a : Int) ++ ⟨#[40]⟩) (Nat.zero_add _) (by rw [size_app]; omega)
          · exact this
          · obtain ⟨i, c, rfl, _, hi, _, _, _, ep⟩ := kidsW_mem hv.ok hx
            refine ih i (by omega) hi ?_
            rw [ep, size_app, letterW_size]; omega
          · obtain ⟨i, c, rfl, _⟩ := kidsW_mem hv.ok hx
            exact textX_size hv.ok n i
      refine Ev.pos (by omega) (Ev.pos (by omega) ?_)
      by_cases e : (rd_T79 (trieW ws) (a : Int)).f2 = true
      · refine Ev.pos e (Ev.pos (by omega) ?_)
        unfold headX at key2
        rwa [if_pos e] at key2
      · refine Ev.neg e ?_
        unfold headX at key2
        rwa [if_neg e] at key2
    by_cases h0 : (a : Int) > 0
    · refine Ev.pos h0 (Ev.pos (by omega) (Ev.pos (by omega) ?_))
      unfold baseX at key
      rwa [if_pos h0] at key
    · refine Ev.neg h0 ?_
      unfold baseX at key
      rwa [if_neg h0] at key
theorem implText_ev {ws : List ByteArray} (hv : VW ws) : ∀ (n a : Nat), n ≤ 13 → a < (prefW ws).length → 13 ≤ (rdOf ByteArray.empty (prefW ws) (a : Int)).size + n → Ev (fun k => impl_Trie_text.f k (trieW ws) (a : Int)) (textX (trieW ws) n (a : Int)) := by
  have hn := trie_le hv
  have hn2 := trieW_length ws
  intro n
  induction n with
  | zero =>
    intro a _ ha h
    have hm : rdOf ByteArray.empty (prefW ws) (a : Int) ∈ prefW ws := at_mem (by omega) (by omega)
    have := (prefW_ok hv.ok hm).1
    omega
  | succ n ih =>
    intro a hn13 ha h
    have hb := bndX_13
    have hbn := bndX_mono (show n + 1 ≤ 13 by omega)
    simp only [bndX] at hbn
    have hbase := baseX_size (trieW ws) (a : Int)
    have hhead := headX_size (trieW ws) (a : Int)
    have hk26 := kidsW_26 hv.ok a
    have e46 : (⟨#[46]⟩ : ByteArray).size = 1 := rfl
    have e40 : (⟨#[40]⟩ : ByteArray).size = 1 := rfl
    refine Ev.succ ?_
    simp only [impl_Trie_text.f]
    have key : Ev (fun k => impl_Trie_text.j0 k (a : Int) (baseX (trieW ws) (a : Int)) (trieW ws)) (textX (trieW ws) (n + 1) (a : Int)) := by
      refine Ev.succ ?_
      simp only [impl_Trie_text.j0]
      have key2 : Ev (fun k => impl_Trie_text.j1 k (a : Int) (headX (trieW ws) (a : Int)) (trieW ws)) (textX (trieW ws) (n + 1) (a : Int)) := by
        refine Ev.succ ?_
        simp only [impl_Trie_text.j1, textX]
        refine Ev.bind (implKids (trieW ws) (a : Int) (by omega)) ?_
        by_cases e : (kidsW (trieW ws) (a : Int)).length = 0
        · rw [if_pos e]; exact Ev.pos (by omega) (Ev.pure _)
        · rw [if_neg e]
          have hmul := Nat.mul_le_mul_right (bndX n) hk26
          refine Ev.neg (by omega) (Ev.pos (by omega) ?_)
          have := implText_l0 (trieW ws) (kidsW (trieW ws) (a : Int)) (textX (trieW ws) n) (bndX n) (fun x hx => ?_) (fun x hx => ?_) (by omega) _ 0 (headX (trieW ws) (a : Int) ++ ⟨#[40]⟩) (Nat.zero_add _) (by rw [size_app]; omega)
          · exact this
          · obtain ⟨i, c, rfl, _, hi, _, _, _, ep⟩ := kidsW_mem hv.ok hx
            refine ih i (by omega) hi ?_
            rw [ep, size_app, letterW_size]; omega
          · obtain ⟨i, c, rfl, _⟩ := kidsW_mem hv.ok hx
            exact textX_size hv.ok n i
      refine Ev.pos (by omega) (Ev.pos (by omega) ?_)
      by_cases e : (rd_T79 (trieW ws) (a : Int)).f2 = true
      · refine Ev.pos e (Ev.pos (by omega) ?_)
        unfold headX at key2
        rwa [if_pos e] at key2
      · refine Ev.neg e ?_
        unfold headX at key2
        rwa [if_neg e] at key2
    by_cases h0 : (a : Int) > 0
    · refine Ev.pos h0 (Ev.pos (by omega) (Ev.pos (by omega) (Ev.bindc (t := letterW (rd_T79 (trieW ws) (a : Int)).f0) rfl ?_)))
      unfold baseX at key
      rwa [if_pos h0] at key
    · refine Ev.neg h0 ?_
      unfold baseX at key
      rwa [if_neg h0] at key
end Go.Proofs.Ytimjfgicihdhbaa.Q
namespace Go.Proofs.Ytimjfgicihdhbaa.Q
open Go.RowKit Go.Proofs.YtimjfgicihdhbaaW.PrintWords Go.Proofs.YtimjfgicihdhbaaW.PrintLast
theorem both_TrieText (l : List IN) : ∃ r, Ev (fun k => spec_TrieText.f k l) r ∧ Ev (fun k => impl_TrieText.f k l) r := by
  unfold spec_TrieText.f impl_TrieText.f
  rcases trie_cases l with hf | ⟨ws, hv, rfl, ht⟩
  · exact ⟨(_, false), Ev.bind (specT l hf) (Ev.neg (by decide) (Ev.pure _)), Ev.bind (implT l hf) (Ev.neg (by decide) (Ev.pure _))⟩
  · have h0 := prefW_pos ws
    exact ⟨(textX (trieW ws) 13 ((0 : Nat) : Int), true), Ev.bind (specT _ ht) (Ev.pos rfl (Ev.bind (specText_ev hv 13 0 (Nat.le_refl _) h0 (Nat.le_add_left _ _)) (Ev.pure _))), Ev.bind (implT _ ht) (Ev.pos rfl (Ev.bind (implText_ev hv 13 0 (Nat.le_refl _) h0 (Nat.le_add_left _ _)) (Ev.pure _)))⟩
theorem pure_FnExactTrieText (l0 : List LN) (hl_l0 : l0.length ≤ maxLen) (hI_l0 : ∀ x ∈ l0, I64 x.f0 ∧ I64 x.f1) : ∃ k, laws_FnExactTrieText.f k l0 = some true := by
  refine Ev.ex ?_
  unfold laws_FnExactTrieText.f
  refine Ev.bindc (szTrie_eq l0 (by unfold maxLen at hl_l0; omega)) ?_
  by_cases h : l0.length ≤ 1048576
  · rw [if_pos h]
    have ht := toTrie_ev l0 h
    obtain ⟨r, e1, e2⟩ := both_TrieText (cv l0)
    refine Ev.neg (by omega) (Ev.bind ht (Ev.bind e1 (Ev.bind ht (Ev.bind e2 ?_))))
    refine Ev.pos rfl (Ev.succ ?_)
    simp only [laws_FnExactTrieText.j0]
    exact Ev.neg (by simp) (tail_ok l0 h)
  · rw [if_neg h]
    exact Ev.pos (by decide) (Ev.pure _)
end Go.Proofs.Ytimjfgicihdhbaa.Q
namespace Go.Proofs.Ytimjfgicihdhbaa.Pure
theorem FnExactTrieText (l0 : List Q.LN) (hl_l0 : l0.length ≤ maxLen) (hI_l0 : ∀ x ∈ l0, Q.I64 x.f0 ∧ Q.I64 x.f1) : ∃ k, Q.laws_FnExactTrieText.f k l0 = some true := Q.pure_FnExactTrieText l0 hl_l0 hI_l0
end Go.Proofs.Ytimjfgicihdhbaa.Pure
namespace Go.Proofs.Ytimjfgicihdhbaa.fnExactTrieText
open Go.ChangeShapes Go.WideShapes Go.ChangeAt Go.RowKit
open Go.ChangeMaps (open_string shut_string)
set_option linter.unusedVariables false
theorem own : ownKnob Try.prog.godebug = none := by kernel_rfl
theorem laidOut : laidOutB Try.prog = true := by kernel_rfl
set_option maxRecDepth 100000 in
theorem lifted (os : Os) (started : os.Started) (H : Type) (enc : TypeId × Value → H) :
    ReturnsInHanded {} Try.checked os 11 .any (Rows.fnExactTrieTextSpec.pre6 enc Try.prog Try.f11 Rows.fnExactTrieTextRow.domain false) (Rows.fnExactTrieTextSpec.post enc Try.prog Try.f11 false true false false) := by
  refine returnsInHanded_of_change_sized (C := Try.checked) own started (by kernel_rfl) Try.func11
    (ChangeSpec.witness6 (enc := enc) (C := Try.checked) false ⟨#[], #[.agg #[.slice none 0 0]], []⟩ 8 (by kernel_rfl) (by kernel_rfl) (by kernel_rfl) (by kernel_rfl)) ?_
  intro W base args ds gs before hval0 hW hcnd hsz0 _
  have hsz : (DataW.weightsEach Try.prog (Try.f11.params.toList ++ Rows.fnExactTrieTextSpec.plain.varTypes Try.prog) (ds ++ gs)).all (· ≤ reachBytes) = true := hsz0
  have hval : ∀ (j : Nat) t v, Try.f11.params[j]? = some t → args[j]? = some v → Value.okWide Try.prog W .any base t v := hval0
  have hW' := hW
  obtain ⟨p, q, hA0, hV, rfl, hfz, hnd⟩ := hW
  have hA : DataW.TrodAll enc Try.prog W 0 (fun _ => true) true Try.f11.params.toList args.toList ds p := hA0
  rw [Try.params11] at hA hval hsz
  obtain ⟨v0, vs0, d0, ds0, p0, q0, hargs, rfl, rfl, h0, r0⟩ := trodAll_cons hA
  obtain ⟨rfl, rfl, rfl⟩ := trodAll_nil r0
  obtain rfl : args = #[v0] := by cases args; simp_all
  obtain ⟨rfl, rfl⟩ := trodVars_none hV
  have k0 := h0
  have lt0 : ∀ x ∈ p0, x.block < W.heap.size := by obtain ⟨m, hm⟩ := k0; exact DataW.trod_lt m _ _ _ hm
  obtain ⟨A0, c0, l0, rfl, hC0, hc0, hl0, hI0⟩ := Q.open_trie (hval 0 24 v0 rfl rfl) h0
  clear hA0 hval0 hsz0 hsz
  obtain ⟨k, hk⟩ := Pure.FnExactTrieText l0 hl0 hI0
  refine (Q.laws_FnExactTrieText.calls k A0 c0 l0 true W hC0 hc0 hk).mono fun e W' ⟨he, bel0⟩ => ?_
  have bel : Below W.heap.size W W' := bel0
  subst he
  exact ⟨_, rfl, _, _, _, [], _, [], hW', trodAll_mk1 (shut_bool Try.underlying4 _), (trodAll_cons_mk (Below.trod laidOut (by kernel_rfl) (of_decide_eq_true (by kernel_rfl)) k0 bel lt0) trodAll_mk0), rfl, bel.frame _, fun h => by cases h⟩
theorem over : Rows.fnExactTrieTextRow.holds Try.pinned (OpenSpec.ofChange Rows.fnExactTrieTextSpec) :=
  OpenClaim.holds_of_wide 11 Try.f11 rfl rfl rfl rfl rfl rfl rfl ⟨rfl, rfl, rfl, rfl, rfl⟩ rfl rfl rfl rfl rfl (by kernel_rfl) Try.func11 (by kernel_rfl)
    (of_decide_eq_true (by kernel_rfl)) (by unfold Func.isWrapper; first | (rw [if_pos (by decide +kernel)]; kernel_rfl) | (rw [if_neg (by decide +kernel)]; exact ⟨rfl, rfl⟩))
    (fun os started H enc _ => lifted os started H enc)
theorem proved : Rows.FnExactTrieTextSaid := over
end Go.Proofs.Ytimjfgicihdhbaa.fnExactTrieText
namespace Go.Proofs.Ytimjfgicihdhbaa
theorem fnExactTrieText_holds : Rows.FnExactTrieTextSaid := fnExactTrieText.proved
end Go.Proofs.Ytimjfgicihdhbaa
