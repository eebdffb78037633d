/- Texts of one proof put together: walks of the program's functions, and plain laws on what they compute. -/
import Derived.Test.YtcgcicngfemnlaaGreatDoorA0
import Derived.Test.YtcgcicngfemnlaaGreatDoorA1
import Derived.Test.YtcgcicngfemnlaaGreatDoorAwWords
import Derived.Test.YtcgcicngfemnlaaGreatDoorAwLast
import Derived.Test.YtcgcicngfemnlaaGreatDoorAwTab
import Derived.Test.YtcgcicngfemnlaaGreatDoorAwApart
import Derived.Test.YtcgcicngfemnlaaGreatDoorAwFoot
import Derived.Test.YtcgcicngfemnlaaGreatDoorAwKept
import Derived.Test.YtcgcicngfemnlaaGreatDoorAwShare
import Derived.Test.YtcgcicngfemnlaaGreatDoorAwN
import Derived.Test.YtcgcicngfemnlaaGreatDoorAwEqStruct
import Derived.Test.YtcgcicngfemnlaaGreatDoorAwRepsOne
import Derived.Test.YtcgcicngfemnlaaGreatDoorAwGuard
import Derived.Test.YtcgcicngfemnlaaGreatDoorAwMore
import Derived.Test.YtcgcicngfemnlaaGreatDoorProg
import Derived.Below
import Derived.Deep.Draws
import Derived.Deep.AppendLies
import Derived.Maps.AppendAt
import Derived.OwnWalk
import Derived.Laws.BytesArg
import Derived.Laws.MakeOwn
import Derived.Laws.OwnMore
import Derived.Deep.OwnRows
import Derived.Tactics
import Derived.Lib.ConvBytes
import Derived.Laws.Slices
import Derived.WalkKit
import Derived.KernelRfl
import Derived.RowKit3
import Derived.Deep.LoopGhost
import Derived.Deep.QuietTactic
import Derived.BigQuiet
import Derived.WideLaws
import Derived.Deep.DeepCutAuto
import Derived.Deep.CutBlock
import Derived.Deep.RegionHeld3
import Derived.Laws.Rows
import Derived.Lib.AppendStr
import Derived.ArgAppend
import Derived.Laws.IdiomCopy
import Derived.OrdersHeld
import Derived.Laws.BitsLemmas
import Derived.RowKit
import Derived.Lib.SlicesCompact
import Derived.Maps.Own
import Derived.StringKeys
import Derived.Maps.OwnOps
import Derived.Maps.OwnSet
import Derived.Maps.Views
import Derived.Laws.AppendOwn
import Derived.Deep.DrawnRows
import Derived.Shelf.Sort.Plain
import Derived.Shelf.Slices.CompactS
import Derived.Shelf.Slices.In.SortNone
import Derived.RangeFuncBox
import Derived.RangeFuncLeaves
import Derived.Shelf.Abstract
import Derived.OwnWalkIn
import Derived.TacticsInMore
import Derived.LoopNIn
import Derived.LoopIn
import Derived.Lib.OwnBridge
import Derived.Sort.OwnSorted
import Derived.Sort.Grow
import Derived.Shelf.Strings.OnBuilder
import Derived.Ground.NamesProg
import Derived.Ground.SlgfProg
import Derived.Sort.Walk0
import Derived.Lib.Strings
import Derived.Shelf.Strings.SlTrimAscii
import Derived.Shelf.SlicesE.DeleteFunc
import Derived.Lib.SliceRun
import Derived.Sort.OwnSortedInts
import Derived.Deep.Slices
import Derived.Deep.Fields
import Derived.ChangeSame
import Derived.ChangeArms
import Derived.WideShapes
set_option linter.unusedVariables false
set_option linter.unusedSimpArgs false
namespace Go.Proofs.YtcgcicngfemnlaaGreatDoor.Q
open Go.RowKit Go.Proofs.YtcgcicngfemnlaaGreatDoorW.PrintWords Go.Proofs.YtcgcicngfemnlaaGreatDoorW.PrintLast Go.Proofs.YtcgcicngfemnlaaGreatDoorW.PrintMore
attribute [local go_sem] run_field_23 run_field_24 run_field_30 run_field_31 isSome_setCell max2_int min2_int max_two min_two max_three min_three max_four min_four   -- for this text's walks alone
set_option linter.unusedVariables false
set_option linter.unusedSimpArgs false
attribute [local go_sem high] eqA83
def spec_l2Set.l0 : Nat → List ByteArray → List ByteArray → Int → Option (List ByteArray × Bool)
  | 0, _, _, _ => none
  | k + 1, x0, x4, x5 => if x5 < (x0.length : Int) then (if 0 ≤ x5 then ((spec_l2Word.f k (rdOf ByteArray.empty x0 x5)).bind fun t284 => (if t284 = true then ((spec_l2Put.f k x4 (rdOf ByteArray.empty x0 x5)).bind fun t286 => (spec_l2Set.l0 k x0 t286 (wrap64 (x5 + 1)))) else (some ((([] : List ByteArray)), false)))) else (none)) else (some (x4, decide ((x4.length : Int) ≤ 40)))
def spec_l2Set.f (k : Nat) (l0 : List ByteArray) : Option (List ByteArray × Bool) := spec_l2Set.l0 k l0 (([] : List ByteArray)) 0
set_option maxHeartbeats 8000000 in
set_option maxRecDepth 100000 in
theorem spec_l2Set.calls (k : Nat) (A0 : Option Addr) (c0 : Nat) (l0 : List ByteArray) (r1 : List ByteArray) (r2 : Bool) (w : World) (hr0 : Kd.C Kd.string w A0 l0.length l0) (hc0 : l0.length ≤ c0) (h : spec_l2Set.f k l0 = some (r1, r2)) :
    Calls Tryz.prog 78 #[.slice A0 l0.length c0] w fun e w' => ∃ v0_ : Value, e = .returned (.tuple #[v0_, .bool r2]) ∧ Kd.V Kd.string 9 w' w.heap.size (fun k_ => (w.heap.size ≤ k_)) v0_ r1 ∧ Below w.heap.size w w' := by
  have HR0 := Aside0.mk hr0
  have HC0 := Aside0.mk hc0
  clear hr0 hc0
  have HB := Aside0.mk (Below.refl w.heap.size w)
  have H : (spec_l2Set.l0 k l0 (([] : List ByteArray)) 0) = some (r1, r2) := h
  clear h
  obtain ⟨y280, hy280⟩ : ∃ y_ : List ByteArray, y_ = (([] : List ByteArray)) := ⟨_, rfl⟩
  replace H : (spec_l2Set.l0 k l0 y280 0) = some (r1, r2) := by first | (rw [hy280]; with_reducible exact H) | (have H2_ := (Option.bind_some _ _).symm.trans H; rw [hy280]; with_reducible exact H2_) | (have H2_ := (Option.bind_some _ _).symm.trans H; with_reducible exact H2_) | with_reducible exact H | (rw [hy280]; exact H) | exact H
  have Ny280 := Aside0.mk hy280
  clear hy280
  have H' := Aside0.mk H
  clear H
  go_enter Tryz.func78, Tryz.ntmps78
  go_wp2_with (first | ((with_reducible refine gate_dst (N := 6) rfl ?_); refine Kd.R_lit Kd.string _ 9 ?hg (N := 6) ?hd (xs := ([] : List ByteArray)) (inner := []) (ok := fun _ => True) (okp := fun _ => True) ?hr ?hp (fun _ hk => hk) trivial (Below.refl _ _) (Nat.le_refl _) (by simp) ?_; (case hd => rfl); (case hg => rfl); (case hr => first | (go_simp; done) | (go_simp; rfl)); (case hp => exact (Reps.none _ _)); intro v281 w2 ho3 hb hg_ hnew_; clear hg_ hnew_; (first | rw [← Ny280.out] at ho3 | (simp only [Int.reduceToNat] at ho3; rw [← Ny280.out] at ho3)); have n0_ := Aside0.mk (Kd.R_lower (Kd.R_newM (M := fun k_ => (w.heap.size ≤ k_)) ho3 (below_size (by repeat (first | (with_reducible first | exact HB.out | apply below_alloc | apply pw_below_drewN | apply below_drew1) | exact HB.out))) (fun k_ h_ => h_)) (below_size (by repeat (first | (with_reducible first | exact HB.out | apply below_alloc | apply pw_below_drewN | apply below_drew1) | exact HB.out)))); have n1_ := Aside0.mk (below_step (by repeat (first | (with_reducible first | exact HB.out | apply below_alloc | apply pw_below_drewN | apply below_drew1) | exact HB.out)) hb); clear HB; have HO282 := n0_; have HB := n1_; clear n0_ n1_; clear hb ho3))
  go_loopg [4, 5] k (fun kq v4 v5 w' => ∃ (x4_1 : List ByteArray) (x5_1 : Int), v5 = .int .i64 x5_1 ∧ Aside0 (spec_l2Set.l0 kq l0 x4_1 x5_1 = some (r1, r2)) ∧ Aside0 (kq ≤ k) ∧ Aside0 (Kd.V Kd.string 9 w' w.heap.size (fun k_ => (w.heap.size ≤ k_)) v4 x4_1) ∧ Aside0 (Below w.heap.size w w'))
  case atStart => exact ⟨(y280), (0), (by first | rfl | (simp; done) | (simp [*]; done)), H', ⟨Nat.le_refl _⟩, ⟨Kd.R_V (by (with_reducible repeat (first | apply Kd.R_alloc | apply Kd.R_drewN | apply Kd.R_drew)); exact Kd.R_mono HO282.out (fun _ hk => hk.1))⟩, ⟨by repeat (first | (with_reducible first | exact HB.out | apply below_alloc | apply pw_below_drewN | apply below_drew1) | exact HB.out)⟩⟩
  case round =>
    clear H'
    try clear p2
    obtain ⟨x4_1, x5_1, rfl, HA, HK1, HO_4, HB⟩ := hrel
    cases gk with
    | zero => exact absurd HA.out (by simp [spec_l2Set.l0])
    | succ k1 =>
      have H := HA.out
      clear HA
      simp only [spec_l2Set.l0] at H
      by_cases c4 : x5_1 < (l0.length : Int)
      · rw [if_pos c4] at H
        have c4b0 : decide (x5_1 < (l0.length : Int)) = true := decide_eq_true c4
        clear c4
        by_cases c5 : 0 ≤ x5_1
        · rw [if_pos c5] at H
          have c5b0 : decide (0 ≤ x5_1) = true := decide_eq_true c5
          clear c5
          replace H := Option.bind_eq_some_iff.mp H
          obtain ⟨t284, A60, H⟩ := H
          replace H : (if t284 = true then ((spec_l2Put.f k1 x4_1 (rdOf ByteArray.empty l0 x5_1)).bind fun t286 => (spec_l2Set.l0 k1 l0 t286 (wrap64 (x5_1 + 1)))) else (some ((([] : List ByteArray)), false))) = some (r1, r2) := H
          have A6 := Aside0.mk A60
          clear A60
          by_cases c7 : t284 = true
          · subst c7
            have H1 : ((spec_l2Put.f k1 x4_1 (rdOf ByteArray.empty l0 x5_1)).bind fun t286 => (spec_l2Set.l0 k1 l0 t286 (wrap64 (x5_1 + 1)))) = some (r1, r2) := by rw [if_pos rfl] at H; exact H
            clear H
            have H := H1
            clear H1
            replace H := Option.bind_eq_some_iff.mp H
            obtain ⟨t286, A80, H⟩ := H
            replace H : (spec_l2Set.l0 k1 l0 t286 (wrap64 (x5_1 + 1))) = some (r1, r2) := H
            have A8 := Aside0.mk A80
            clear A80
            have H' := Aside0.mk H
            clear H
            have p283 : 0 ≤ (x5_1 : Int) := of_decide_eq_true (by first | (with_reducible assumption) | assumption)
            have q283 : x5_1 < (l0.length : Int) := of_decide_eq_true (by first | (with_reducible assumption) | assumption)
            obtain ⟨ad283, e283, hx283_0⟩ := Kd.at_string HR0.out x5_1 p283 q283
            cases e283
            replace hx283_0 := (HB.out.cell (World.block_lt_of_cell? w _ hx283_0)).trans hx283_0
            replace p283 := eq_true p283
            replace q283 := eq_true q283
            go_wp2_with (first | ((with_reducible refine gate_callee (f := 96) rfl ?_); refine goesL_ (some 17) rfl rfl Tryz.func96 (by kernel_rfl) rfl #[.string (rdOf ByteArray.empty l0 x5_1)] rfl (by (try simp only [List.map_toArray, List.map_cons, List.map_nil]); first | done | rfl | (simp only [List.length_drop, List.length_take]; rfl)) ?_; (with_reducible refine (spec_l2Word.calls k1 (rdOf ByteArray.empty l0 x5_1) true _ A6.out).mono ?_); rintro e w' ⟨rfl, ⟨nd, rfl⟩⟩; refine ⟨_, rfl, ?_⟩; have p285 : 0 ≤ (x5_1 : Int) := of_decide_eq_true (by first | (with_reducible assumption) | assumption); have q285 : x5_1 < (l0.length : Int) := of_decide_eq_true (by first | (with_reducible assumption) | assumption); obtain ⟨ad285, e285, hx285_0⟩ := Kd.at_string HR0.out x5_1 p285 q285; obtain rfl : ad283 = ad285 := (by injection e285); replace hx285_0 := (HB.out.cell (World.block_lt_of_cell? w _ hx285_0)).trans hx285_0; replace p285 := eq_true p285; replace q285 := eq_true q285; obtain ⟨Ao9, co9, eo9⟩ := Kd.V_slice HO_4.out; subst eo9) | ((with_reducible refine gate_callee (f := 97) rfl ?_); refine goesL_ (some 25) rfl rfl Tryz.func97 (by kernel_rfl) rfl #[.slice Ao9 x4_1.length co9, .string (rdOf ByteArray.empty l0 x5_1)] rfl (by (try simp only [List.map_toArray, List.map_cons, List.map_nil]); first | done | rfl | (simp only [List.length_drop, List.length_take]; rfl)) ?_; (with_reducible refine (spec_l2Put.calls k1 (fun k_ => (w.heap.size ≤ k_)) _ _ x4_1 (rdOf ByteArray.empty l0 x5_1) t286 _ ?side1 A8.out).mono ?_); (case side1 => exact HO_4.out); rintro e w10 ⟨v287, rfl, ho0, hb⟩; refine ⟨_, rfl, ?_⟩; have n0_ := Aside0.mk (Kd.V_below (by (with_reducible repeat (first | apply Kd.V_alloc | apply Kd.V_drewN | apply Kd.V_drew)); exact HO_4.out) hb); have n1_ := Aside0.mk (Kd.V_lower (Kd.V_mono (ok' := fun k_ => (w.heap.size ≤ k_)) ho0 (fun k_ hk_ => Or.elim hk_ (fun hs_ => hs_) (fun hn_ => (Nat.le_trans (below_size (by repeat (first | (with_reducible first | exact HB.out | apply below_alloc | apply pw_below_drewN | apply below_drew1) | exact HB.out))) hn_)))) (below_size (by repeat (first | (with_reducible first | exact HB.out | apply below_alloc | apply pw_below_drewN | apply below_drew1) | exact HB.out)))); have n2_ := Aside0.mk (below_step (by repeat (first | (with_reducible first | exact HB.out | apply below_alloc | apply pw_below_drewN | apply below_drew1) | exact HB.out)) hb); clear HO_4; clear HB; have HO_4 := n0_; have HO288 := n1_; have HB := n2_; clear n0_ n1_ n2_; (try clear hb); (try clear hb2); (try clear hk); (try clear hi); (try clear ho0)))
            go_roundg k1
            case measure => have := HK1.out; omega
            case rel => exact ⟨(t286), (wrap64 (x5_1 + 1)), (by first | rfl | (simp; done) | (simp [*]; done)), H', ⟨by have := HK1.out; omega⟩, ⟨by (with_reducible repeat (first | apply Kd.V_alloc | apply Kd.V_drewN | apply Kd.V_drew)); exact HO288.out⟩, ⟨by repeat (first | (with_reducible first | exact HB.out | apply below_alloc | apply pw_below_drewN | apply below_drew1) | exact HB.out)⟩⟩
          · replace c7 := Bool.eq_false_iff.mpr c7
            subst c7
            have H1 : (some ((([] : List ByteArray)), false)) = some (r1, r2) := by rw [if_neg (show ¬ (false = true) by decide)] at H; exact H
            clear H
            have H := H1
            clear H1
            obtain ⟨y289, hy289⟩ : ∃ y_ : List ByteArray, y_ = (([] : List ByteArray)) := ⟨_, rfl⟩
            replace H : (some (y289, false)) = some (r1, r2) := by first | (rw [hy289]; with_reducible exact H) | (have H2_ := (Option.bind_some _ _).symm.trans H; rw [hy289]; with_reducible exact H2_) | (have H2_ := (Option.bind_some _ _).symm.trans H; with_reducible exact H2_) | with_reducible exact H | (rw [hy289]; exact H) | exact H
            have Ny289 := Aside0.mk hy289
            clear hy289
            simp only [Option.some.injEq, Prod.mk.injEq] at H
            obtain ⟨rfl, rfl⟩ := H
            have p283 : 0 ≤ (x5_1 : Int) := of_decide_eq_true (by first | (with_reducible assumption) | assumption)
            have q283 : x5_1 < (l0.length : Int) := of_decide_eq_true (by first | (with_reducible assumption) | assumption)
            obtain ⟨ad283, e283, hx283_0⟩ := Kd.at_string HR0.out x5_1 p283 q283
            cases e283
            replace hx283_0 := (HB.out.cell (World.block_lt_of_cell? w _ hx283_0)).trans hx283_0
            replace p283 := eq_true p283
            replace q283 := eq_true q283
            go_wp2_with (first | ((with_reducible refine gate_callee (f := 96) rfl ?_); refine goesL_ (some 17) rfl rfl Tryz.func96 (by kernel_rfl) rfl #[.string (rdOf ByteArray.empty l0 x5_1)] rfl (by (try simp only [List.map_toArray, List.map_cons, List.map_nil]); first | done | rfl | (simp only [List.length_drop, List.length_take]; rfl)) ?_; (with_reducible refine (spec_l2Word.calls k1 (rdOf ByteArray.empty l0 x5_1) false _ A6.out).mono ?_); rintro e w' ⟨rfl, ⟨nd, rfl⟩⟩; refine ⟨_, rfl, ?_⟩) | ((with_reducible refine gate_dst (N := 19) rfl ?_); refine Kd.R_lit Kd.string _ 9 ?hg (N := 19) ?hd (xs := ([] : List ByteArray)) (inner := []) (ok := fun _ => True) (okp := fun _ => True) ?hr ?hp (fun _ hk => hk) trivial (Below.refl _ _) (Nat.le_refl _) (by simp) ?_; (case hd => rfl); (case hg => rfl); (case hr => first | (go_simp; done) | (go_simp; rfl)); (case hp => exact (Reps.none _ _)); intro v290 w11 ho12 hb hg_ hnew_; clear hg_ hnew_; (first | rw [← Ny289.out] at ho12 | (simp only [Int.reduceToNat] at ho12; rw [← Ny289.out] at ho12)); have n0_ := Aside0.mk (Kd.V_elder' (by (with_reducible repeat (first | apply Kd.V_alloc | apply Kd.V_drewN | apply Kd.V_drew)); exact HO_4.out) (Kd.R_base ho12) hb); have n1_ := Aside0.mk (Kd.R_lower (Kd.R_newM (M := fun k_ => (w.heap.size ≤ k_)) ho12 (below_size (by repeat (first | (with_reducible first | exact HB.out | apply below_alloc | apply pw_below_drewN | apply below_drew1) | exact HB.out))) (fun k_ h_ => h_)) (below_size (by repeat (first | (with_reducible first | exact HB.out | apply below_alloc | apply pw_below_drewN | apply below_drew1) | exact HB.out)))); have n2_ := Aside0.mk (below_step (by repeat (first | (with_reducible first | exact HB.out | apply below_alloc | apply pw_below_drewN | apply below_drew1) | exact HB.out)) hb); clear HO_4; clear HB; have HO_4 := n0_; have HO291 := n1_; have HB := n2_; clear n0_ n1_ n2_; clear hb ho12))
            go_ret2
            exact ⟨_, by first | rfl | (simp [errW_none, errW_some] <;> rfl) | (simp [*, errW_none, errW_some] <;> rfl), Kd.R_V (by (with_reducible repeat (first | apply Kd.R_alloc | apply Kd.R_drewN | apply Kd.R_drew)); exact Kd.R_mono HO291.out (fun _ hk => hk.1)), by repeat (first | (with_reducible first | exact HB.out | apply below_alloc | apply pw_below_drewN | apply below_drew1) | exact HB.out)⟩
        · rw [if_neg c5] at H
          exact absurd H (by simp)
      · rw [if_neg c4] at H
        have c4b0 : decide (x5_1 < (l0.length : Int)) = false := decide_eq_false c4
        clear c4
        simp only [Option.some.injEq, Prod.mk.injEq] at H
        obtain ⟨rfl, rfl⟩ := H
        obtain ⟨Ao13, co13, eo13⟩ := Kd.V_slice HO_4.out
        subst eo13
        go_wp2
        go_ret2
        exact ⟨_, by first | rfl | (simp [errW_none, errW_some] <;> rfl) | (simp [*, errW_none, errW_some] <;> rfl), by (with_reducible repeat (first | apply Kd.V_alloc | apply Kd.V_drewN | apply Kd.V_drew)); exact HO_4.out, by repeat (first | (with_reducible first | exact HB.out | apply below_alloc | apply pw_below_drewN | apply below_drew1) | exact HB.out)⟩
mutual
def spec_l2Same.l0 : Nat → Int → List (S83) → List (S83) → Option (Bool)
  | 0, _, _, _ => none
  | k + 1, x5, x293000, x294000 => if x5 < (x293000.length : Int) then (spec_l2Same.j1 k x5 (decide (x5 < (x294000.length : Int))) x293000 x294000) else (spec_l2Same.j1 k x5 false x293000 x294000)
def spec_l2Same.j1 : Nat → Int → Bool → List (S83) → List (S83) → Option (Bool)
  | 0, _, _, _, _ => none
  | k + 1, x5, x17, x293000, x294000 => if x17 = true then (if 0 ≤ x5 then (if x5 < (x293000.length : Int) then (if x5 < (x294000.length : Int) then (if (!(((rd_T83 x293000 x5).f0) == ((rd_T83 x294000 x5).f0)) || (!(((rd_T83 x293000 x5).f1) == ((rd_T83 x294000 x5).f1)) || (!(((rd_T83 x293000 x5).f2) == ((rd_T83 x294000 x5).f2))))) = true then (some false) else (spec_l2Same.l0 k (wrap64 (x5 + 1)) x293000 x294000)) else (none)) else (none)) else (none)) else (some ((x293000.length : Int) == (x294000.length : Int)))
end
def spec_l2Same.f (k : Nat) (l0_0 : List (S83)) (l1_0 : List (S83)) : Option (Bool) := spec_l2Same.l0 k 0 l0_0 l1_0
set_option maxHeartbeats 8000000 in
set_option maxRecDepth 100000 in
theorem spec_l2Same.calls (k : Nat) (A0_0 : Option Addr) (c0_0 : Nat) (l0_0 : List (S83)) (A1_0 : Option Addr) (c1_0 : Nat) (l1_0 : List (S83)) (r : Bool) (w : World) (hr0_0 : Kd.C k83 w A0_0 l0_0.length l0_0) (hc0_0 : l0_0.length ≤ c0_0) (hr1_0 : Kd.C k83 w A1_0 l1_0.length l1_0) (hc1_0 : l1_0.length ≤ c1_0) (h : spec_l2Same.f k l0_0 l1_0 = some r) :
    Calls Tryz.prog 79 #[.agg #[.slice A0_0 l0_0.length c0_0], .agg #[.slice A1_0 l1_0.length c1_0]] w fun e w' => e = .returned (.bool r) ∧ Below w.heap.size w w' := by
  have hu31 := Tryz.underlying31
  have hu83 := Tryz.underlying83
  have HR0_0 := Aside0.mk hr0_0
  have HC0_0 := Aside0.mk hc0_0
  clear hr0_0 hc0_0
  have HR1_0 := Aside0.mk hr1_0
  have HC1_0 := Aside0.mk hc1_0
  clear hr1_0 hc1_0
  have HB := Aside0.mk (Below.refl w.heap.size w)
  have H : (spec_l2Same.l0 k 0 l0_0 l1_0) = some r := h
  clear h
  have H' := Aside0.mk H
  clear H
  go_enter Tryz.func79, Tryz.ntmps79
  go_wp2_with (first | ((with_reducible refine gate_dst (N := 2) rfl ?_); (try (refine gate_guard (by rfl) ?_; dsimp only)); refine box_event ?hg (N := 2) ?hd (cs := #[.slice A0_0 l0_0.length c0_0]) (t := 31) ?hr ?_; (case hd => rfl); (case hg => rfl); (case hr => first | (go_simp; done) | (go_simp; rfl)); intro gb292 hg w3 hbox hb; have n0_ := Aside0.mk (below_step (by repeat (first | (with_reducible first | exact HB.out | apply below_alloc | apply pw_below_drewN | apply below_drew1) | exact HB.out)) hb); have n1_ := Aside0.mk (hbox); have n2_ := Aside0.mk ((by rw [hg]; exact (below_size (by repeat (first | (with_reducible first | exact HB.out | apply below_alloc | apply pw_below_drewN | apply below_drew1) | exact HB.out))) : w.heap.size ≤ gb292)); have n3_ := Aside0.mk ((by rw [hg]; exact (below_size (by repeat (first | (with_reducible first | exact HB.out | apply below_alloc | apply pw_below_drewN | apply below_drew1) | exact HB.out))) : w.heap.size ≤ gb292)); clear HB; have HB := n0_; have BK292 := n1_; have GW292 := n2_; have GE292 := n3_; clear n0_ n1_ n2_ n3_; clear hb hbox hg) | ((with_reducible refine gate_dst (N := 3) rfl ?_); (try (refine gate_guard (by rfl) ?_; dsimp only)); refine box_event ?hg (N := 3) ?hd (cs := #[.slice A1_0 l1_0.length c1_0]) (t := 31) ?hr ?_; (case hd => rfl); (case hg => rfl); (case hr => first | (go_simp; done) | (go_simp; rfl)); intro gb293 hg w4 hbox hb; have n0_ := Aside0.mk (blk_below (g := gb292) (o := .cells #[.slice A0_0 l0_0.length c0_0] 31 (0, 0)) (by (with_reducible repeat (first | refine blk_drewN ?_ _ | refine blk_drew ?_ | refine blk_alloc ?_ _)); exact BK292.out) hb); have n1_ := Aside0.mk (below_step (by repeat (first | (with_reducible first | exact HB.out | apply below_alloc | apply pw_below_drewN | apply below_drew1 | refine below_set ?_ GE292.out) | exact HB.out)) hb); have n2_ := Aside0.mk (hbox); have n3_ := Aside0.mk ((by rw [hg]; exact (below_size (by repeat (first | (with_reducible first | exact HB.out | apply below_alloc | apply pw_below_drewN | apply below_drew1 | refine below_set ?_ GE292.out) | exact HB.out))) : w.heap.size ≤ gb293)); have n4_ := Aside0.mk ((by rw [hg]; exact (below_size (by repeat (first | (with_reducible first | exact HB.out | apply below_alloc | apply pw_below_drewN | apply below_drew1 | refine below_set ?_ GE292.out) | exact HB.out))) : w.heap.size ≤ gb293)); have n5_ := Aside0.mk ((by rw [hg]; exact Nat.ne_of_lt (blk_lt (g := gb292) (o := .cells #[.slice A0_0 l0_0.length c0_0] 31 (0, 0)) (by (with_reducible repeat (first | refine blk_drewN ?_ _ | refine blk_drew ?_ | refine blk_alloc ?_ _)); exact BK292.out)) : gb292 ≠ gb293)); have n6_ := Aside0.mk ((by rw [hg]; exact Nat.ne_of_gt (blk_lt (g := gb292) (o := .cells #[.slice A0_0 l0_0.length c0_0] 31 (0, 0)) (by (with_reducible repeat (first | refine blk_drewN ?_ _ | refine blk_drew ?_ | refine blk_alloc ?_ _)); exact BK292.out)) : gb293 ≠ gb292)); clear BK292; clear HB; have BK292 := n0_; have HB := n1_; have BK293 := n2_; have GW293 := n3_; have GE293 := n4_; have NB292_293 := n5_; have NB293_292 := n6_; clear n0_ n1_ n2_ n3_ n4_ n5_ n6_; clear hb hbox hg))
  repeat (go_quiet (first | ((with_reducible refine gate_dst (N := 2) rfl ?_); (try (refine gate_guard (by rfl) ?_; dsimp only)); refine box_event ?hg (N := 2) ?hd (cs := #[.slice A0_0 l0_0.length c0_0]) (t := 31) ?hr ?_; (case hd => rfl); (case hg => rfl); (case hr => first | (go_simp; done) | (go_simp; rfl)); intro gb292 hg w3 hbox hb; have n0_ := Aside0.mk (below_step (by repeat (first | (with_reducible first | exact HB.out | apply below_alloc | apply pw_below_drewN | apply below_drew1) | exact HB.out)) hb); have n1_ := Aside0.mk (hbox); have n2_ := Aside0.mk ((by rw [hg]; exact (below_size (by repeat (first | (with_reducible first | exact HB.out | apply below_alloc | apply pw_below_drewN | apply below_drew1) | exact HB.out))) : w.heap.size ≤ gb292)); have n3_ := Aside0.mk ((by rw [hg]; exact (below_size (by repeat (first | (with_reducible first | exact HB.out | apply below_alloc | apply pw_below_drewN | apply below_drew1) | exact HB.out))) : w.heap.size ≤ gb292)); clear HB; have HB := n0_; have BK292 := n1_; have GW292 := n2_; have GE292 := n3_; clear n0_ n1_ n2_ n3_; clear hb hbox hg) | ((with_reducible refine gate_dst (N := 3) rfl ?_); (try (refine gate_guard (by rfl) ?_; dsimp only)); refine box_event ?hg (N := 3) ?hd (cs := #[.slice A1_0 l1_0.length c1_0]) (t := 31) ?hr ?_; (case hd => rfl); (case hg => rfl); (case hr => first | (go_simp; done) | (go_simp; rfl)); intro gb293 hg w4 hbox hb; have n0_ := Aside0.mk (blk_below (g := gb292) (o := .cells #[.slice A0_0 l0_0.length c0_0] 31 (0, 0)) (by (with_reducible repeat (first | refine blk_drewN ?_ _ | refine blk_drew ?_ | refine blk_alloc ?_ _)); exact BK292.out) hb); have n1_ := Aside0.mk (below_step (by repeat (first | (with_reducible first | exact HB.out | apply below_alloc | apply pw_below_drewN | apply below_drew1 | refine below_set ?_ GE292.out) | exact HB.out)) hb); have n2_ := Aside0.mk (hbox); have n3_ := Aside0.mk ((by rw [hg]; exact (below_size (by repeat (first | (with_reducible first | exact HB.out | apply below_alloc | apply pw_below_drewN | apply below_drew1 | refine below_set ?_ GE292.out) | exact HB.out))) : w.heap.size ≤ gb293)); have n4_ := Aside0.mk ((by rw [hg]; exact (below_size (by repeat (first | (with_reducible first | exact HB.out | apply below_alloc | apply pw_below_drewN | apply below_drew1 | refine below_set ?_ GE292.out) | exact HB.out))) : w.heap.size ≤ gb293)); have n5_ := Aside0.mk ((by rw [hg]; exact Nat.ne_of_lt (blk_lt (g := gb292) (o := .cells #[.slice A0_0 l0_0.length c0_0] 31 (0, 0)) (by (with_reducible repeat (first | refine blk_drewN ?_ _ | refine blk_drew ?_ | refine blk_alloc ?_ _)); exact BK292.out)) : gb292 ≠ gb293)); have n6_ := Aside0.mk ((by rw [hg]; exact Nat.ne_of_gt (blk_lt (g := gb292) (o := .cells #[.slice A0_0 l0_0.length c0_0] 31 (0, 0)) (by (with_reducible repeat (first | refine blk_drewN ?_ _ | refine blk_drew ?_ | refine blk_alloc ?_ _)); exact BK292.out)) : gb293 ≠ gb292)); clear BK292; clear HB; have BK292 := n0_; have HB := n1_; have BK293 := n2_; have GW293 := n3_; have GE293 := n4_; have NB292_293 := n5_; have NB293_292 := n6_; clear n0_ n1_ n2_ n3_ n4_ n5_ n6_; clear hb hbox hg)); try go_wp2_with (first | ((with_reducible refine gate_dst (N := 2) rfl ?_); (try (refine gate_guard (by rfl) ?_; dsimp only)); refine box_event ?hg (N := 2) ?hd (cs := #[.slice A0_0 l0_0.length c0_0]) (t := 31) ?hr ?_; (case hd => rfl); (case hg => rfl); (case hr => first | (go_simp; done) | (go_simp; rfl)); intro gb292 hg w3 hbox hb; have n0_ := Aside0.mk (below_step (by repeat (first | (with_reducible first | exact HB.out | apply below_alloc | apply pw_below_drewN | apply below_drew1) | exact HB.out)) hb); have n1_ := Aside0.mk (hbox); have n2_ := Aside0.mk ((by rw [hg]; exact (below_size (by repeat (first | (with_reducible first | exact HB.out | apply below_alloc | apply pw_below_drewN | apply below_drew1) | exact HB.out))) : w.heap.size ≤ gb292)); have n3_ := Aside0.mk ((by rw [hg]; exact (below_size (by repeat (first | (with_reducible first | exact HB.out | apply below_alloc | apply pw_below_drewN | apply below_drew1) | exact HB.out))) : w.heap.size ≤ gb292)); clear HB; have HB := n0_; have BK292 := n1_; have GW292 := n2_; have GE292 := n3_; clear n0_ n1_ n2_ n3_; clear hb hbox hg) | ((with_reducible refine gate_dst (N := 3) rfl ?_); (try (refine gate_guard (by rfl) ?_; dsimp only)); refine box_event ?hg (N := 3) ?hd (cs := #[.slice A1_0 l1_0.length c1_0]) (t := 31) ?hr ?_; (case hd => rfl); (case hg => rfl); (case hr => first | (go_simp; done) | (go_simp; rfl)); intro gb293 hg w4 hbox hb; have n0_ := Aside0.mk (blk_below (g := gb292) (o := .cells #[.slice A0_0 l0_0.length c0_0] 31 (0, 0)) (by (with_reducible repeat (first | refine blk_drewN ?_ _ | refine blk_drew ?_ | refine blk_alloc ?_ _)); exact BK292.out) hb); have n1_ := Aside0.mk (below_step (by repeat (first | (with_reducible first | exact HB.out | apply below_alloc | apply pw_below_drewN | apply below_drew1 | refine below_set ?_ GE292.out) | exact HB.out)) hb); have n2_ := Aside0.mk (hbox); have n3_ := Aside0.mk ((by rw [hg]; exact (below_size (by repeat (first | (with_reducible first | exact HB.out | apply below_alloc | apply pw_below_drewN | apply below_drew1 | refine below_set ?_ GE292.out) | exact HB.out))) : w.heap.size ≤ gb293)); have n4_ := Aside0.mk ((by rw [hg]; exact (below_size (by repeat (first | (with_reducible first | exact HB.out | apply below_alloc | apply pw_below_drewN | apply below_drew1 | refine below_set ?_ GE292.out) | exact HB.out))) : w.heap.size ≤ gb293)); have n5_ := Aside0.mk ((by rw [hg]; exact Nat.ne_of_lt (blk_lt (g := gb292) (o := .cells #[.slice A0_0 l0_0.length c0_0] 31 (0, 0)) (by (with_reducible repeat (first | refine blk_drewN ?_ _ | refine blk_drew ?_ | refine blk_alloc ?_ _)); exact BK292.out)) : gb292 ≠ gb293)); have n6_ := Aside0.mk ((by rw [hg]; exact Nat.ne_of_gt (blk_lt (g := gb292) (o := .cells #[.slice A0_0 l0_0.length c0_0] 31 (0, 0)) (by (with_reducible repeat (first | refine blk_drewN ?_ _ | refine blk_drew ?_ | refine blk_alloc ?_ _)); exact BK292.out)) : gb293 ≠ gb292)); clear BK292; clear HB; have BK292 := n0_; have HB := n1_; have BK293 := n2_; have GW293 := n3_; have GE293 := n4_; have NB292_293 := n5_; have NB293_292 := n6_; clear n0_ n1_ n2_ n3_ n4_ n5_ n6_; clear hb hbox hg)))
  go_loopg [5] k (fun kq v5 w' => ∃ (x5_1 : Int), v5 = .int .i64 x5_1 ∧ Aside0 (spec_l2Same.l0 kq x5_1 l0_0 l1_0 = some r) ∧ Aside0 (kq ≤ k) ∧ Aside0 (w'.heap[gb292]? = some (.cells #[(.slice A0_0 l0_0.length c0_0)] 31 (0, 0))) ∧ Aside0 (w'.heap[gb293]? = some (.cells #[(.slice A1_0 l1_0.length c1_0)] 31 (0, 0))) ∧ Aside0 (Below w.heap.size w w'))
  case atStart => exact ⟨(0), (by first | rfl | (simp; done) | (simp [*]; done)), H', ⟨Nat.le_refl _⟩, ⟨by (with_reducible repeat (first | refine blk_drewN ?_ _ | refine blk_drew ?_ | refine blk_alloc ?_ _)); exact BK292.out⟩, ⟨by (with_reducible repeat (first | refine blk_drewN ?_ _ | refine blk_drew ?_ | refine blk_alloc ?_ _)); exact BK293.out⟩, ⟨by repeat (first | (with_reducible first | exact HB.out | apply below_alloc | apply pw_below_drewN | apply below_drew1 | refine below_set ?_ GE292.out | refine below_set ?_ GE293.out) | exact HB.out)⟩⟩
  case round =>
    clear H'
    try clear c1
    try clear p2
    obtain ⟨x5_1, rfl, HA, HK1, BK292, BK293, HB⟩ := hrel
    cases gk with
    | zero => exact absurd HA.out (by simp [spec_l2Same.l0])
    | succ k1 =>
      have H := HA.out
      clear HA
      simp only [spec_l2Same.l0] at H
      have HC5 := Aside0.mk H
      clear H
      go_upto_region 2 with (fail)
      repeat (go_quiet (fail); go_upto_region 2 with (fail))
      go_cut [17] (fun v17 wc => ∃ (kq : Nat) (x17_4 : Bool), v17 = .bool x17_4 ∧ Aside0 (spec_l2Same.j1 kq x5_1 x17_4 l0_0 l1_0 = some r) ∧ Aside0 (kq ≤ k1) ∧ Aside0 (wc.heap[gb292]? = some (.cells #[(.slice A0_0 l0_0.length c0_0)] 31 (0, 0))) ∧ Aside0 (wc.heap[gb293]? = some (.cells #[(.slice A1_0 l1_0.length c1_0)] 31 (0, 0))) ∧ Aside0 (Below w.heap.size w wc))
      case first =>
        have H := HC5.out
        clear HC5
        by_cases c6 : x5_1 < (l0_0.length : Int)
        · rw [if_pos c6] at H
          have c6b0 : decide (x5_1 < (l0_0.length : Int)) = true := decide_eq_true c6
          clear c6
          (first | rw [c6b0] | (simp only [i64_w, i32_w]; rw [c6b0]) | skip)
          have H' := Aside0.mk H
          clear H
          have hnb7 := NB292_293.out
          have hnc7 := NB293_292.out
          have hcz8_0 : wr.cell? ⟨gb292, 0, none⟩ = some (.slice A0_0 l0_0.length c0_0) := (blk_cell BK292.out 0).trans rfl
          have hfz8_0 := blk_frozen BK292.out 0
          have hcz9_0 : wr.cell? ⟨gb293, 0, none⟩ = some (.slice A1_0 l1_0.length c1_0) := (blk_cell BK293.out 0).trans rfl
          have hfz9_0 := blk_frozen BK293.out 0
          go_wp2
          repeat (go_quiet (fail); try go_wp2)
          go_meet
          case rel => exact ⟨_, (decide (x5_1 < (l1_0.length : Int))), (by first | rfl | (simp; done) | (simp [*]; done)), H', ⟨by have := HK1.out; first | omega | exact Nat.le_refl _⟩, ⟨by (with_reducible repeat (first | refine blk_drewN ?_ _ | refine blk_drew ?_ | refine blk_alloc ?_ _)); exact BK292.out⟩, ⟨by (with_reducible repeat (first | refine blk_drewN ?_ _ | refine blk_drew ?_ | refine blk_alloc ?_ _)); exact BK293.out⟩, ⟨by repeat (first | (with_reducible first | exact HB.out | apply below_alloc | apply pw_below_drewN | apply below_drew1 | refine below_set ?_ GE292.out | refine below_set ?_ GE293.out) | exact HB.out)⟩⟩
        · rw [if_neg c6] at H
          have c6b0 : decide (x5_1 < (l0_0.length : Int)) = false := decide_eq_false c6
          clear c6
          (first | rw [c6b0] | (simp only [i64_w, i32_w]; rw [c6b0]) | skip)
          have H' := Aside0.mk H
          clear H
          have hnb10 := NB292_293.out
          have hnc10 := NB293_292.out
          have hcz11_0 : wr.cell? ⟨gb292, 0, none⟩ = some (.slice A0_0 l0_0.length c0_0) := (blk_cell BK292.out 0).trans rfl
          have hfz11_0 := blk_frozen BK292.out 0
          go_wp2
          repeat (go_quiet (fail); try go_wp2)
          go_meet
          case rel => exact ⟨_, (false), (by first | rfl | (simp; done) | (simp [*]; done)), H', ⟨by have := HK1.out; first | omega | exact Nat.le_refl _⟩, ⟨by (with_reducible repeat (first | refine blk_drewN ?_ _ | refine blk_drew ?_ | refine blk_alloc ?_ _)); exact BK292.out⟩, ⟨by (with_reducible repeat (first | refine blk_drewN ?_ _ | refine blk_drew ?_ | refine blk_alloc ?_ _)); exact BK293.out⟩, ⟨by repeat (first | (with_reducible first | exact HB.out | apply below_alloc | apply pw_below_drewN | apply below_drew1 | refine below_set ?_ GE292.out | refine below_set ?_ GE293.out) | exact HB.out)⟩⟩
      case rest =>
        clear HC5
        try clear c1
        try clear p2
        try clear c6
        try clear c6b0
        try clear c7
        try clear c10
        try clear hcz11_0
        try clear hcz8_0
        try clear hcz9_0
        try clear hfz11_0
        try clear hfz8_0
        try clear hfz9_0
        try clear p2
        obtain ⟨kq, x17_4, rfl, HA, HJ4, BK292, BK293, HB⟩ := hcut
        cases kq with
        | zero => exact absurd HA.out (by simp [spec_l2Same.j1])
        | succ kj4 =>
          have H := HA.out
          clear HA
          simp only [spec_l2Same.j1] at H
          by_cases c12 : x17_4 = true
          · subst c12
            have H1 : (if 0 ≤ x5_1 then (if x5_1 < (l0_0.length : Int) then (if x5_1 < (l1_0.length : Int) then (if (!(((rd_T83 l0_0 x5_1).f0) == ((rd_T83 l1_0 x5_1).f0)) || (!(((rd_T83 l0_0 x5_1).f1) == ((rd_T83 l1_0 x5_1).f1)) || (!(((rd_T83 l0_0 x5_1).f2) == ((rd_T83 l1_0 x5_1).f2))))) = true then (some false) else (spec_l2Same.l0 kj4 (wrap64 (x5_1 + 1)) l0_0 l1_0)) else (none)) else (none)) else (none)) = some r := by rw [if_pos rfl] at H; exact H
            clear H
            have H := H1
            clear H1
            by_cases c13 : 0 ≤ x5_1
            · rw [if_pos c13] at H
              have c13b0 : decide (0 ≤ x5_1) = true := decide_eq_true c13
              clear c13
              by_cases c14 : x5_1 < (l0_0.length : Int)
              · rw [if_pos c14] at H
                have c14b0 : decide (x5_1 < (l0_0.length : Int)) = true := decide_eq_true c14
                clear c14
                by_cases c15 : x5_1 < (l1_0.length : Int)
                · rw [if_pos c15] at H
                  have c15b0 : decide (x5_1 < (l1_0.length : Int)) = true := decide_eq_true c15
                  clear c15
                  by_cases c16 : (!(((rd_T83 l0_0 x5_1).f0) == ((rd_T83 l1_0 x5_1).f0)) || (!(((rd_T83 l0_0 x5_1).f1) == ((rd_T83 l1_0 x5_1).f1)) || (!(((rd_T83 l0_0 x5_1).f2) == ((rd_T83 l1_0 x5_1).f2))))) = true
                  · rw [if_pos c16] at H
                    have c16b0 : (!(((rd_T83 l0_0 x5_1).f0) == ((rd_T83 l1_0 x5_1).f0)) || (!(((rd_T83 l0_0 x5_1).f1) == ((rd_T83 l1_0 x5_1).f1)) || (!(((rd_T83 l0_0 x5_1).f2) == ((rd_T83 l1_0 x5_1).f2))))) = true := c16
                    clear c16
                    obtain rfl := Option.some.inj H
                    have hnb17 := NB292_293.out
                    have hnc17 := NB293_292.out
                    have hcz18_0 : wc.cell? ⟨gb292, 0, none⟩ = some (.slice A0_0 l0_0.length c0_0) := (blk_cell BK292.out 0).trans rfl
                    have hfz18_0 := blk_frozen BK292.out 0
                    have p294 : 0 ≤ (x5_1 : Int) := of_decide_eq_true (by first | (with_reducible assumption) | assumption)
                    have q294 : x5_1 < (l0_0.length : Int) := of_decide_eq_true (by first | (with_reducible assumption) | assumption)
                    obtain ⟨ad294, e294, hx294_0, hx294_1, hx294_2⟩ := at_T83 HR0_0.out x5_1 p294 q294
                    cases e294
                    replace hx294_0 := (HB.out.cell (World.block_lt_of_cell? w _ hx294_0)).trans hx294_0
                    replace hx294_1 := (HB.out.cell (World.block_lt_of_cell? w _ hx294_1)).trans hx294_1
                    replace hx294_2 := (HB.out.cell (World.block_lt_of_cell? w _ hx294_2)).trans hx294_2
                    replace p294 := eq_true p294
                    replace q294 := eq_true q294
                    have hcz19_0 : wc.cell? ⟨gb293, 0, none⟩ = some (.slice A1_0 l1_0.length c1_0) := (blk_cell BK293.out 0).trans rfl
                    have hfz19_0 := blk_frozen BK293.out 0
                    have p295 : 0 ≤ (x5_1 : Int) := of_decide_eq_true (by first | (with_reducible assumption) | assumption)
                    have q295 : x5_1 < (l1_0.length : Int) := of_decide_eq_true (by first | (with_reducible assumption) | assumption)
                    obtain ⟨ad295, e295, hx295_0, hx295_1, hx295_2⟩ := at_T83 HR1_0.out x5_1 p295 q295
                    cases e295
                    replace hx295_0 := (HB.out.cell (World.block_lt_of_cell? w _ hx295_0)).trans hx295_0
                    replace hx295_1 := (HB.out.cell (World.block_lt_of_cell? w _ hx295_1)).trans hx295_1
                    replace hx295_2 := (HB.out.cell (World.block_lt_of_cell? w _ hx295_2)).trans hx295_2
                    replace p295 := eq_true p295
                    replace q295 := eq_true q295
                    go_wp2
                    repeat (go_quiet (fail); try go_wp2)
                    go_ret
                    exact ⟨by first | rfl | (simp [errW_none, errW_some] <;> rfl) | (simp [*, errW_none, errW_some] <;> rfl), by repeat (first | (with_reducible first | exact HB.out | apply below_alloc | apply pw_below_drewN | apply below_drew1 | refine below_set ?_ GE292.out | refine below_set ?_ GE293.out) | exact HB.out)⟩
                  · rw [if_neg c16] at H
                    have c16b0 : (!(((rd_T83 l0_0 x5_1).f0) == ((rd_T83 l1_0 x5_1).f0)) || (!(((rd_T83 l0_0 x5_1).f1) == ((rd_T83 l1_0 x5_1).f1)) || (!(((rd_T83 l0_0 x5_1).f2) == ((rd_T83 l1_0 x5_1).f2))))) = false := by simpa using c16
                    clear c16
                    have H' := Aside0.mk H
                    clear H
                    have hnb20 := NB292_293.out
                    have hnc20 := NB293_292.out
                    have hcz21_0 : wc.cell? ⟨gb292, 0, none⟩ = some (.slice A0_0 l0_0.length c0_0) := (blk_cell BK292.out 0).trans rfl
                    have hfz21_0 := blk_frozen BK292.out 0
                    have p294 : 0 ≤ (x5_1 : Int) := of_decide_eq_true (by first | (with_reducible assumption) | assumption)
                    have q294 : x5_1 < (l0_0.length : Int) := of_decide_eq_true (by first | (with_reducible assumption) | assumption)
                    obtain ⟨ad294, e294, hx294_0, hx294_1, hx294_2⟩ := at_T83 HR0_0.out x5_1 p294 q294
                    cases e294
                    replace hx294_0 := (HB.out.cell (World.block_lt_of_cell? w _ hx294_0)).trans hx294_0
                    replace hx294_1 := (HB.out.cell (World.block_lt_of_cell? w _ hx294_1)).trans hx294_1
                    replace hx294_2 := (HB.out.cell (World.block_lt_of_cell? w _ hx294_2)).trans hx294_2
                    replace p294 := eq_true p294
                    replace q294 := eq_true q294
                    have hcz22_0 : wc.cell? ⟨gb293, 0, none⟩ = some (.slice A1_0 l1_0.length c1_0) := (blk_cell BK293.out 0).trans rfl
                    have hfz22_0 := blk_frozen BK293.out 0
                    have p295 : 0 ≤ (x5_1 : Int) := of_decide_eq_true (by first | (with_reducible assumption) | assumption)
                    have q295 : x5_1 < (l1_0.length : Int) := of_decide_eq_true (by first | (with_reducible assumption) | assumption)
                    obtain ⟨ad295, e295, hx295_0, hx295_1, hx295_2⟩ := at_T83 HR1_0.out x5_1 p295 q295
                    cases e295
                    replace hx295_0 := (HB.out.cell (World.block_lt_of_cell? w _ hx295_0)).trans hx295_0
                    replace hx295_1 := (HB.out.cell (World.block_lt_of_cell? w _ hx295_1)).trans hx295_1
                    replace hx295_2 := (HB.out.cell (World.block_lt_of_cell? w _ hx295_2)).trans hx295_2
                    replace p295 := eq_true p295
                    replace q295 := eq_true q295
                    go_wp2
                    repeat (go_quiet (fail); try go_wp2)
                    go_roundg kj4
                    case measure => have := HK1.out; have := HJ4.out; omega
                    case rel => exact ⟨(wrap64 (x5_1 + 1)), (by first | rfl | (simp; done) | (simp [*]; done)), H', ⟨by have := HK1.out; have := HJ4.out; omega⟩, ⟨by (with_reducible repeat (first | refine blk_drewN ?_ _ | refine blk_drew ?_ | refine blk_alloc ?_ _)); exact BK292.out⟩, ⟨by (with_reducible repeat (first | refine blk_drewN ?_ _ | refine blk_drew ?_ | refine blk_alloc ?_ _)); exact BK293.out⟩, ⟨by repeat (first | (with_reducible first | exact HB.out | apply below_alloc | apply pw_below_drewN | apply below_drew1 | refine below_set ?_ GE292.out | refine below_set ?_ GE293.out) | exact HB.out)⟩⟩
                · rw [if_neg c15] at H
                  exact absurd H (by simp)
              · rw [if_neg c14] at H
                exact absurd H (by simp)
            · rw [if_neg c13] at H
              exact absurd H (by simp)
          · replace c12 := Bool.eq_false_iff.mpr c12
            subst c12
            have H1 : (some ((l0_0.length : Int) == (l1_0.length : Int))) = some r := by rw [if_neg (show ¬ (false = true) by decide)] at H; exact H
            clear H
            have H := H1
            clear H1
            obtain rfl := Option.some.inj H
            have hnb23 := NB292_293.out
            have hnc23 := NB293_292.out
            have hcz24_0 : wc.cell? ⟨gb292, 0, none⟩ = some (.slice A0_0 l0_0.length c0_0) := (blk_cell BK292.out 0).trans rfl
            have hfz24_0 := blk_frozen BK292.out 0
            have hcz25_0 : wc.cell? ⟨gb293, 0, none⟩ = some (.slice A1_0 l1_0.length c1_0) := (blk_cell BK293.out 0).trans rfl
            have hfz25_0 := blk_frozen BK293.out 0
            go_wp2
            repeat (go_quiet (fail); try go_wp2)
            go_ret
            exact ⟨by first | rfl | (simp [errW_none, errW_some] <;> rfl) | (simp [*, errW_none, errW_some] <;> rfl), by repeat (first | (with_reducible first | exact HB.out | apply below_alloc | apply pw_below_drewN | apply below_drew1 | refine below_set ?_ GE292.out | refine below_set ?_ GE293.out) | exact HB.out)⟩
def spec_l2Has.l0 : Nat → List ByteArray → ByteArray → Int → Option (Bool)
  | 0, _, _, _ => none
  | k + 1, x0, x1, x5 => if x5 < (x0.length : Int) then (if 0 ≤ x5 then (if (rdOf ByteArray.empty x0 x5).toList = x1.toList then (some true) else (spec_l2Has.l0 k x0 x1 (wrap64 (x5 + 1)))) else (none)) else (some false)
def spec_l2Has.f (k : Nat) (l0 : List ByteArray) (a1 : ByteArray) : Option (Bool) := spec_l2Has.l0 k l0 a1 0
set_option maxHeartbeats 8000000 in
set_option maxRecDepth 100000 in
theorem spec_l2Has.calls (k : Nat) (A0 : Option Addr) (c0 : Nat) (l0 : List ByteArray) (a1 : ByteArray) (r : Bool) (w : World) (hr0 : Kd.C Kd.string w A0 l0.length l0) (hc0 : l0.length ≤ c0) (h : spec_l2Has.f k l0 a1 = some r) :
    Calls Tryz.prog 58 #[.slice A0 l0.length c0, .string a1] w fun e w' => e = .returned (.bool r) ∧ Drawn0 w w' := by
  have HR0 := Aside0.mk hr0
  have HC0 := Aside0.mk hc0
  clear hr0 hc0
  have H : (spec_l2Has.l0 k l0 a1 0) = some r := h
  clear h
  have H' := Aside0.mk H
  clear H
  go_enter Tryz.func58, Tryz.ntmps58
  go_wp2
  go_loopg [5] k (fun kq v5 w' => ∃ (x5_1 : Int), v5 = .int .i64 x5_1 ∧ Aside0 (spec_l2Has.l0 kq l0 a1 x5_1 = some r) ∧ Aside0 (kq ≤ k) ∧ Drawn0 w w')
  case atStart => exact ⟨(0), (by first | rfl | (simp; done) | (simp [*]; done)), H', ⟨Nat.le_refl _⟩, by repeat (first | exact Drawn0.refl _ | apply Drawn0.step)⟩
  case round =>
    clear H'
    try clear p2
    obtain ⟨x5_1, rfl, HA, HK1, ⟨m1, rfl⟩⟩ := hrel
    cases gk with
    | zero => exact absurd HA.out (by simp [spec_l2Has.l0])
    | succ k1 =>
      have H := HA.out
      clear HA
      simp only [spec_l2Has.l0] at H
      by_cases c3 : x5_1 < (l0.length : Int)
      · rw [if_pos c3] at H
        have c3b0 : decide (x5_1 < (l0.length : Int)) = true := decide_eq_true c3
        clear c3
        by_cases c4 : 0 ≤ x5_1
        · rw [if_pos c4] at H
          have c4b0 : decide (0 ≤ x5_1) = true := decide_eq_true c4
          clear c4
          by_cases c5 : (rdOf ByteArray.empty l0 x5_1).toList = a1.toList
          · rw [if_pos c5] at H
            have c5b0 : ((rdOf ByteArray.empty l0 x5_1).toList == a1.toList) = true := beq_iff_eq.mpr c5
            have c5b1 : ((rdOf ByteArray.empty l0 x5_1).toList != a1.toList) = false := bne_eq_false_iff_eq.mpr c5
            clear c5
            obtain rfl := Option.some.inj H
            have p296 : 0 ≤ (x5_1 : Int) := of_decide_eq_true (by first | (with_reducible assumption) | assumption)
            have q296 : x5_1 < (l0.length : Int) := of_decide_eq_true (by first | (with_reducible assumption) | assumption)
            obtain ⟨ad296, e296, hx296_0⟩ := Kd.at_string HR0.out x5_1 p296 q296
            cases e296
            replace p296 := eq_true p296
            replace q296 := eq_true q296
            go_wp2
            go_ret
            exact ⟨by first | rfl | (simp; done) | (simp [*]; done), by repeat (first | exact Drawn0.refl _ | apply Drawn0.step)⟩
          · rw [if_neg c5] at H
            have c5b0 : ((rdOf ByteArray.empty l0 x5_1).toList == a1.toList) = false := beq_eq_false_iff_ne.mpr c5
            have c5b1 : ((rdOf ByteArray.empty l0 x5_1).toList != a1.toList) = true := bne_iff_ne.mpr c5
            have H' := Aside0.mk H
            clear H
            have p296 : 0 ≤ (x5_1 : Int) := of_decide_eq_true (by first | (with_reducible assumption) | assumption)
            have q296 : x5_1 < (l0.length : Int) := of_decide_eq_true (by first | (with_reducible assumption) | assumption)
            obtain ⟨ad296, e296, hx296_0⟩ := Kd.at_string HR0.out x5_1 p296 q296
            cases e296
            replace p296 := eq_true p296
            replace q296 := eq_true q296
            go_wp2
            go_roundg k1
            case measure => have := HK1.out; omega
            case rel => exact ⟨(wrap64 (x5_1 + 1)), (by first | rfl | (simp; done) | (simp [*]; done)), H', ⟨by have := HK1.out; omega⟩, by repeat (first | exact Drawn0.refl _ | apply Drawn0.step)⟩
        · rw [if_neg c4] at H
          exact absurd H (by simp)
      · rw [if_neg c3] at H
        have c3b0 : decide (x5_1 < (l0.length : Int)) = false := decide_eq_false c3
        clear c3
        obtain rfl := Option.some.inj H
        go_wp2
        go_ret
        exact ⟨by first | rfl | (simp; done) | (simp [*]; done), by repeat (first | exact Drawn0.refl _ | apply Drawn0.step)⟩
def spec_l2Place.l0 : Nat → List ByteArray → ByteArray → Int → Option (Int)
  | 0, _, _, _ => none
  | k + 1, x0, x1, x5 => if x5 < (x0.length : Int) then (if 0 ≤ x5 then (if (rdOf ByteArray.empty x0 x5).toList = x1.toList then (some x5) else (spec_l2Place.l0 k x0 x1 (wrap64 (x5 + 1)))) else (none)) else (some (-1))
def spec_l2Place.f (k : Nat) (l0 : List ByteArray) (a1 : ByteArray) : Option (Int) := spec_l2Place.l0 k l0 a1 0
set_option maxHeartbeats 8000000 in
set_option maxRecDepth 100000 in
theorem spec_l2Place.calls (k : Nat) (A0 : Option Addr) (c0 : Nat) (l0 : List ByteArray) (a1 : ByteArray) (r : Int) (w : World) (hr0 : Kd.C Kd.string w A0 l0.length l0) (hc0 : l0.length ≤ c0) (h : spec_l2Place.f k l0 a1 = some r) :
    Calls Tryz.prog 98 #[.slice A0 l0.length c0, .string a1] w fun e w' => e = .returned (.int .i64 r) ∧ Drawn0 w w' := by
  have HR0 := Aside0.mk hr0
  have HC0 := Aside0.mk hc0
  clear hr0 hc0
  have H : (spec_l2Place.l0 k l0 a1 0) = some r := h
  clear h
  have H' := Aside0.mk H
  clear H
  go_enter Tryz.func98, Tryz.ntmps98
  go_wp2
  go_loopg [5] k (fun kq v5 w' => ∃ (x5_1 : Int), v5 = .int .i64 x5_1 ∧ Aside0 (spec_l2Place.l0 kq l0 a1 x5_1 = some r) ∧ Aside0 (kq ≤ k) ∧ Drawn0 w w')
  case atStart => exact ⟨(0), (by first | rfl | (simp; done) | (simp [*]; done)), H', ⟨Nat.le_refl _⟩, by repeat (first | exact Drawn0.refl _ | apply Drawn0.step)⟩
  case round =>
    clear H'
    try clear p2
    obtain ⟨x5_1, rfl, HA, HK1, ⟨m1, rfl⟩⟩ := hrel
    cases gk with
    | zero => exact absurd HA.out (by simp [spec_l2Place.l0])
    | succ k1 =>
      have H := HA.out
      clear HA
      simp only [spec_l2Place.l0] at H
      by_cases c3 : x5_1 < (l0.length : Int)
      · rw [if_pos c3] at H
        have c3b0 : decide (x5_1 < (l0.length : Int)) = true := decide_eq_true c3
        clear c3
        by_cases c4 : 0 ≤ x5_1
        · rw [if_pos c4] at H
          have c4b0 : decide (0 ≤ x5_1) = true := decide_eq_true c4
          clear c4
          by_cases c5 : (rdOf ByteArray.empty l0 x5_1).toList = a1.toList
          · rw [if_pos c5] at H
            have c5b0 : ((rdOf ByteArray.empty l0 x5_1).toList == a1.toList) = true := beq_iff_eq.mpr c5
            have c5b1 : ((rdOf ByteArray.empty l0 x5_1).toList != a1.toList) = false := bne_eq_false_iff_eq.mpr c5
            clear c5
            obtain rfl := Option.some.inj H
            have p297 : 0 ≤ (x5_1 : Int) := of_decide_eq_true (by first | (with_reducible assumption) | assumption)
            have q297 : x5_1 < (l0.length : Int) := of_decide_eq_true (by first | (with_reducible assumption) | assumption)
            obtain ⟨ad297, e297, hx297_0⟩ := Kd.at_string HR0.out x5_1 p297 q297
            cases e297
            replace p297 := eq_true p297
            replace q297 := eq_true q297
            go_wp2
            go_ret
            exact ⟨by first | rfl | (simp; done) | (simp [*]; done), by repeat (first | exact Drawn0.refl _ | apply Drawn0.step)⟩
          · rw [if_neg c5] at H
            have c5b0 : ((rdOf ByteArray.empty l0 x5_1).toList == a1.toList) = false := beq_eq_false_iff_ne.mpr c5
            have c5b1 : ((rdOf ByteArray.empty l0 x5_1).toList != a1.toList) = true := bne_iff_ne.mpr c5
            have H' := Aside0.mk H
            clear H
            have p297 : 0 ≤ (x5_1 : Int) := of_decide_eq_true (by first | (with_reducible assumption) | assumption)
            have q297 : x5_1 < (l0.length : Int) := of_decide_eq_true (by first | (with_reducible assumption) | assumption)
            obtain ⟨ad297, e297, hx297_0⟩ := Kd.at_string HR0.out x5_1 p297 q297
            cases e297
            replace p297 := eq_true p297
            replace q297 := eq_true q297
            go_wp2
            go_roundg k1
            case measure => have := HK1.out; omega
            case rel => exact ⟨(wrap64 (x5_1 + 1)), (by first | rfl | (simp; done) | (simp [*]; done)), H', ⟨by have := HK1.out; omega⟩, by repeat (first | exact Drawn0.refl _ | apply Drawn0.step)⟩
        · rw [if_neg c4] at H
          exact absurd H (by simp)
      · rw [if_neg c3] at H
        have c3b0 : decide (x5_1 < (l0.length : Int)) = false := decide_eq_false c3
        clear c3
        obtain rfl := Option.some.inj H
        go_wp2
        go_ret
        exact ⟨by first | rfl | (simp; done) | (simp [*]; done), by repeat (first | exact Drawn0.refl _ | apply Drawn0.step)⟩
end Go.Proofs.YtcgcicngfemnlaaGreatDoor.Q
namespace Go.Proofs.YtcgcicngfemnlaaGreatDoor.Q
open Go.RowKit Go.Proofs.YtcgcicngfemnlaaGreatDoorW.PrintWords Go.Proofs.YtcgcicngfemnlaaGreatDoorW.PrintLast Go.Proofs.YtcgcicngfemnlaaGreatDoorW.PrintMore
attribute [local go_sem] run_field_23 run_field_24 run_field_30 run_field_31 isSome_setCell max2_int min2_int max_two min_two max_three min_three max_four min_four   -- for this text's walks alone
set_option linter.unusedVariables false
set_option linter.unusedSimpArgs false
mutual
def spec_l2Of.l0 : Nat → List ByteArray → List ByteArray → Int → Option ((List (S83)))
  | 0, _, _, _ => none
  | k + 1, x0, x3, x4 => if x4 < (x0.length : Int) then (spec_l2Of.l1 k x0 x3 x4 1) else (spec_l2Of.l2 k x0 x3 0 (([] : List (S83))))
def spec_l2Of.l1 : Nat → List ByteArray → List ByteArray → Int → Int → Option ((List (S83)))
  | 0, _, _, _, _ => none
  | k + 1, x0, x3, x4, x5 => if 0 ≤ x4 then (if x4 < (x0.length : Int) then (if x5 ≤ ((rdOf ByteArray.empty x0 x4).size : Int) then (if 0 ≤ x5 then ((spec_l2Put.f k x3 ((rdOf ByteArray.empty x0 x4).extract 0 (x5 : Int).toNat)).bind fun t304 => (spec_l2Of.l1 k x0 t304 x4 (wrap64 (x5 + 1)))) else (none)) else (spec_l2Of.l0 k x0 x3 (wrap64 (x4 + 1)))) else (none)) else (none)
def spec_l2Of.l2 : Nat → List ByteArray → List ByteArray → Int → List (S83) → Option ((List (S83)))
  | 0, _, _, _, _ => none
  | k + 1, x0, x3, x7, x311000 => if x7 < (x3.length : Int) then (if 0 ≤ x7 then ((spec_l2Has.f k x0 (rdOf ByteArray.empty x3 x7)).bind fun t312 => (if x7 > 0 then (if 0 ≤ (wrap64 (((rdOf ByteArray.empty x3 x7).size : Int) - 1)) then (if (wrap64 (((rdOf ByteArray.empty x3 x7).size : Int) - 1)) < ((rdOf ByteArray.empty x3 x7).size : Int) then (if (wrap64 (((rdOf ByteArray.empty x3 x7).size : Int) - 1)) ≤ ((rdOf ByteArray.empty x3 x7).size : Int) then ((spec_l2Place.f k x3 ((rdOf ByteArray.empty x3 x7).extract 0 ((wrap64 (((rdOf ByteArray.empty x3 x7).size : Int) - 1)) : Int).toNat)).bind fun t314 => (if x311000.length < 5864062014805 then (spec_l2Of.l2 k x0 x3 (wrap64 (x7 + 1)) (x311000 ++ [(⟨((bt (rdOf ByteArray.empty x3 x7) (wrap64 (((rdOf ByteArray.empty x3 x7).size : Int) - 1))) - 97) % 256, t314, t312⟩ : S83)])) else (none))) else (none)) else (none)) else (none)) else (if x311000.length < 5864062014805 then (spec_l2Of.l2 k x0 x3 (wrap64 (x7 + 1)) (x311000 ++ [(⟨(-1), (-1), t312⟩ : S83)])) else (none)))) else (none)) else (some x311000)
end
def spec_l2Of.f (k : Nat) (l0 : List ByteArray) : Option ((List (S83))) := spec_l2Of.l0 k l0 (([(⟨#[]⟩ : ByteArray)] : List ByteArray)) 0
set_option maxHeartbeats 8000000 in
set_option maxRecDepth 100000 in
theorem spec_l2Of.calls (k : Nat) (A0 : Option Addr) (c0 : Nat) (l0 : List ByteArray) (r : List (S83)) (w : World) (hr0 : Kd.C Kd.string w A0 l0.length l0) (hc0 : l0.length ≤ c0) (h : spec_l2Of.f k l0 = some r) :
    Calls Tryz.prog 80 #[.slice A0 l0.length c0] w fun e w' => ∃ v0_ : Value, e = .returned (.agg #[v0_]) ∧ Kd.R k83 83 w' w.heap.size (fun _ => True) v0_ r ∧ Below w.heap.size w w' := by
  have hu31 := Tryz.underlying31
  have hu83 := Tryz.underlying83
  have HR0 := Aside0.mk hr0
  have HC0 := Aside0.mk hc0
  clear hr0 hc0
  have HB := Aside0.mk (Below.refl w.heap.size w)
  have H : (spec_l2Of.l0 k l0 (([(⟨#[]⟩ : ByteArray)] : List ByteArray)) 0) = some r := h
  clear h
  obtain ⟨y299, hy299⟩ : ∃ y_ : List ByteArray, y_ = (([(⟨#[]⟩ : ByteArray)] : List ByteArray)) := ⟨_, rfl⟩
  replace H : (spec_l2Of.l0 k l0 y299 0) = some r := by first | (rw [hy299]; with_reducible exact H) | (have H2_ := (Option.bind_some _ _).symm.trans H; rw [hy299]; with_reducible exact H2_) | (have H2_ := (Option.bind_some _ _).symm.trans H; with_reducible exact H2_) | with_reducible exact H | (rw [hy299]; exact H) | exact H
  have Ny299 := Aside0.mk hy299
  clear hy299
  have H' := Aside0.mk H
  clear H
  go_enter Tryz.func80, Tryz.ntmps80
  go_wp2_with (first | ((with_reducible refine gate_dst (N := 2) rfl ?_); refine box_event ?hg (N := 2) ?hd (cs := #[.slice none 0 0]) (t := 31) ?hr ?_; (case hd => rfl); (case hg => rfl); (case hr => first | (go_simp; done) | (go_simp; rfl)); intro gb298 hg w2 hbox hb; have n0_ := Aside0.mk (below_step (by repeat (first | (with_reducible first | exact HB.out | apply below_alloc | apply pw_below_drewN | apply below_drew1) | exact HB.out)) hb); have n1_ := Aside0.mk (hbox); have n2_ := Aside0.mk ((by rw [hg]; exact (below_size (by repeat (first | (with_reducible first | exact HB.out | apply below_alloc | apply pw_below_drewN | apply below_drew1) | exact HB.out))) : w.heap.size ≤ gb298)); have n3_ := Aside0.mk ((by rw [hg]; exact (below_size (by repeat (first | (with_reducible first | exact HB.out | apply below_alloc | apply pw_below_drewN | apply below_drew1) | exact HB.out))) : w.heap.size ≤ gb298)); clear HB; have HB := n0_; have BK298 := n1_; have GW298 := n2_; have GE298 := n3_; clear n0_ n1_ n2_ n3_; clear hb hbox hg) | ((with_reducible refine gate_dst (N := 10) rfl ?_); refine Kd.R_lit Kd.string _ 9 ?hg (N := 10) ?hd (xs := ([(⟨#[]⟩ : ByteArray)] : List ByteArray)) (inner := [.string (⟨#[]⟩ : ByteArray)]) (ok := fun _ => True) (okp := fun _ => True) ?hr ?hp (fun _ hk => hk) trivial (Below.refl _ _) (Nat.le_refl _) (by simp) ?_; (case hd => rfl); (case hg => rfl); (case hr => first | (go_simp; done) | (go_simp; rfl)); (case hp => exact (Reps.one (show Kd.M Kd.string _ _ _ (⟨#[]⟩ : ByteArray) [.string (⟨#[]⟩ : ByteArray)] from rfl) (Reps.none _ _))); intro v300 w3 ho4 hb hg_ hnew_; clear hg_ hnew_; (first | rw [← Ny299.out] at ho4 | (simp only [Int.reduceToNat] at ho4; rw [← Ny299.out] at ho4)); have n0_ := Aside0.mk (Kd.R_lower ho4 (below_size (by repeat (first | (with_reducible first | exact HB.out | apply below_alloc | apply pw_below_drewN | apply below_drew1 | refine below_set ?_ GE298.out) | exact HB.out)))); have n1_ := Aside0.mk (blk_below (g := gb298) (o := .cells #[.slice none 0 0] 31 (0, 0)) (by (with_reducible repeat (first | refine blk_drewN ?_ _ | refine blk_drew ?_ | refine blk_alloc ?_ _)); exact BK298.out) hb); have n2_ := Aside0.mk (below_step (by repeat (first | (with_reducible first | exact HB.out | apply below_alloc | apply pw_below_drewN | apply below_drew1 | refine below_set ?_ GE298.out) | exact HB.out)) hb); clear BK298; clear HB; have HO301 := n0_; have BK298 := n1_; have HB := n2_; clear n0_ n1_ n2_; clear hb ho4))
  go_loopg [3, 4] k (fun kq v3 v4 w' => ∃ (x3_1 : List ByteArray) (x4_1 : Int), v4 = .int .i64 x4_1 ∧ Aside0 (spec_l2Of.l0 kq l0 x3_1 x4_1 = some r) ∧ Aside0 (kq ≤ k) ∧ Aside0 (Kd.V Kd.string 9 w' w.heap.size (fun k_ => k_ ≠ gb298) v3 x3_1) ∧ Aside0 (w'.heap[gb298]? = some (.cells #[(.slice none 0 0)] 31 (0, 0))) ∧ Aside0 (Below w.heap.size w w'))
  case atStart => exact ⟨(y299), (0), (by first | rfl | (simp; done) | (simp [*]; done)), H', ⟨Nat.le_refl _⟩, ⟨Kd.R_V (by (with_reducible repeat (first | apply Kd.R_alloc | apply Kd.R_drewN | apply Kd.R_drew)); exact Kd.R_mono (Kd.R_types HO301.out BK298.out (by decide)) (fun _ hk => hk.2))⟩, ⟨by (with_reducible repeat (first | refine blk_drewN ?_ _ | refine blk_drew ?_ | refine blk_alloc ?_ _)); exact BK298.out⟩, ⟨by repeat (first | (with_reducible first | exact HB.out | apply below_alloc | apply pw_below_drewN | apply below_drew1 | refine below_set ?_ GE298.out) | exact HB.out)⟩⟩
  case round =>
    clear H'
    try clear p2
    obtain ⟨x3_1, x4_1, rfl, HA, HK1, HO_3, BK298, HB⟩ := hrel
    cases gk with
    | zero => exact absurd HA.out (by simp [spec_l2Of.l0])
    | succ k1 =>
      have H := HA.out
      clear HA
      simp only [spec_l2Of.l0] at H
      by_cases c5 : x4_1 < (l0.length : Int)
      · rw [if_pos c5] at H
        have c5b0 : decide (x4_1 < (l0.length : Int)) = true := decide_eq_true c5
        clear c5
        have H' := Aside0.mk H
        clear H
        go_wp2
        go_loopg [3, 5] k1 (fun kq v3 v5 w' => ∃ (x3_2 : List ByteArray) (x5_2 : Int), v5 = .int .i64 x5_2 ∧ Aside0 (spec_l2Of.l1 kq l0 x3_2 x4_1 x5_2 = some r) ∧ Aside0 (kq ≤ k1) ∧ Aside0 (Kd.V Kd.string 9 w' w.heap.size (fun k_ => k_ ≠ gb298) v3 x3_2) ∧ Aside0 (w'.heap[gb298]? = some (.cells #[(.slice none 0 0)] 31 (0, 0))) ∧ Aside0 (Below w.heap.size w w'))
        case atStart => exact ⟨(x3_1), (1), (by first | rfl | (simp; done) | (simp [*]; done)), H', ⟨Nat.le_refl _⟩, ⟨by (with_reducible repeat (first | apply Kd.V_alloc | apply Kd.V_drewN | apply Kd.V_drew)); exact HO_3.out⟩, ⟨by (with_reducible repeat (first | refine blk_drewN ?_ _ | refine blk_drew ?_ | refine blk_alloc ?_ _)); exact BK298.out⟩, ⟨by repeat (first | (with_reducible first | exact HB.out | apply below_alloc | apply pw_below_drewN | apply below_drew1 | refine below_set ?_ GE298.out) | exact HB.out)⟩⟩
        case round =>
          clear H'
          try clear p2
          try clear c5
          try clear c5b0
          try clear p2
          obtain ⟨x3_2, x5_2, rfl, HA, HK2, HO_3, BK298, HB⟩ := hrel
          cases gk with
          | zero => exact absurd HA.out (by simp [spec_l2Of.l1])
          | succ k2 =>
            have H := HA.out
            clear HA
            simp only [spec_l2Of.l1] at H
            by_cases c6 : 0 ≤ x4_1
            · rw [if_pos c6] at H
              have c6b0 : decide (0 ≤ x4_1) = true := decide_eq_true c6
              clear c6
              by_cases c7 : x4_1 < (l0.length : Int)
              · rw [if_pos c7] at H
                have c7b0 : decide (x4_1 < (l0.length : Int)) = true := decide_eq_true c7
                clear c7
                by_cases c8 : x5_2 ≤ ((rdOf ByteArray.empty l0 x4_1).size : Int)
                · rw [if_pos c8] at H
                  have c8b0 : decide (x5_2 ≤ ((rdOf ByteArray.empty l0 x4_1).size : Int)) = true := decide_eq_true c8
                  clear c8
                  by_cases c9 : 0 ≤ x5_2
                  · rw [if_pos c9] at H
                    have c9b0 := eq_true c9
                    have c9b1 : decide (0 ≤ x5_2) = true := decide_eq_true c9
                    clear c9
                    have c10b0 := eq_true (of_decide_eq_true (by first | (with_reducible assumption) | assumption) : x5_2 ≤ ((rdOf ByteArray.empty l0 x4_1).size : Int))
                    replace H := Option.bind_eq_some_iff.mp H
                    obtain ⟨t304, A110, H⟩ := H
                    replace H : (spec_l2Of.l1 k2 l0 t304 x4_1 (wrap64 (x5_2 + 1))) = some r := H
                    have A11 := Aside0.mk A110
                    clear A110
                    have H' := Aside0.mk H
                    clear H
                    have p302 : 0 ≤ (x4_1 : Int) := of_decide_eq_true (by first | (with_reducible assumption) | assumption)
                    have q302 : x4_1 < (l0.length : Int) := of_decide_eq_true (by first | (with_reducible assumption) | assumption)
                    obtain ⟨ad302, e302, hx302_0⟩ := Kd.at_string HR0.out x4_1 p302 q302
                    cases e302
                    replace hx302_0 := (HB.out.cell (World.block_lt_of_cell? w _ hx302_0)).trans hx302_0
                    replace p302 := eq_true p302
                    replace q302 := eq_true q302
                    have p303 : 0 ≤ (x4_1 : Int) := of_decide_eq_true (by first | (with_reducible assumption) | assumption)
                    have q303 : x4_1 < (l0.length : Int) := of_decide_eq_true (by first | (with_reducible assumption) | assumption)
                    obtain ⟨ad303, e303, hx303_0⟩ := Kd.at_string HR0.out x4_1 p303 q303
                    obtain rfl : ad302 = ad303 := (by injection e303)
                    replace hx303_0 := (HB.out.cell (World.block_lt_of_cell? w _ hx303_0)).trans hx303_0
                    replace p303 := eq_true p303
                    replace q303 := eq_true q303
                    obtain ⟨Ao12, co12, eo12⟩ := Kd.V_slice HO_3.out
                    subst eo12
                    go_wp2_with (first | ((with_reducible refine gate_callee (f := 97) rfl ?_); refine goesL_ (some 33) rfl rfl Tryz.func97 (by kernel_rfl) rfl #[.slice Ao12 x3_2.length co12, .string ((rdOf ByteArray.empty l0 x4_1).extract 0 (x5_2 : Int).toNat)] rfl (by (try simp only [List.map_toArray, List.map_cons, List.map_nil]); first | done | rfl | (simp only [List.length_drop, List.length_take]; rfl)) ?_; (with_reducible refine (spec_l2Put.calls k2 (fun k_ => k_ ≠ gb298) _ _ x3_2 ((rdOf ByteArray.empty l0 x4_1).extract 0 (x5_2 : Int).toNat) t304 _ ?side1 A11.out).mono ?_); (case side1 => exact HO_3.out); rintro e w13 ⟨v305, rfl, ho0, hb⟩; refine ⟨_, rfl, ?_⟩; have n0_ := Aside0.mk (Kd.V_below (by (with_reducible repeat (first | apply Kd.V_alloc | apply Kd.V_drewN | apply Kd.V_drew)); exact HO_3.out) hb); have n1_ := Aside0.mk (Kd.V_lower (Kd.V_mono (ok' := fun k_ => k_ ≠ gb298) ho0 (fun k_ hk_ => Or.elim hk_ (fun hs_ => hs_) (fun hn_ => (Kd.freshB (g := gb298) (o := .cells #[.slice none 0 0] 31 (0, 0)) (by (with_reducible repeat (first | refine blk_drewN ?_ _ | refine blk_drew ?_ | refine blk_alloc ?_ _)); exact BK298.out) k_ hn_)))) (below_size (by repeat (first | (with_reducible first | exact HB.out | apply below_alloc | apply pw_below_drewN | apply below_drew1 | refine below_set ?_ GE298.out) | exact HB.out)))); have n2_ := Aside0.mk (blk_below (g := gb298) (o := .cells #[.slice none 0 0] 31 (0, 0)) (by (with_reducible repeat (first | refine blk_drewN ?_ _ | refine blk_drew ?_ | refine blk_alloc ?_ _)); exact BK298.out) hb); have n3_ := Aside0.mk (below_step (by repeat (first | (with_reducible first | exact HB.out | apply below_alloc | apply pw_below_drewN | apply below_drew1 | refine below_set ?_ GE298.out) | exact HB.out)) hb); clear HO_3; clear BK298; clear HB; have HO_3 := n0_; have HO306 := n1_; have BK298 := n2_; have HB := n3_; clear n0_ n1_ n2_ n3_; (try clear hb); (try clear hb2); (try clear hk); (try clear hi); (try clear ho0)))
                    go_roundg k2
                    case measure => have := HK1.out; have := HK2.out; omega
                    case rel => exact ⟨(t304), (wrap64 (x5_2 + 1)), (by first | rfl | (simp; done) | (simp [*]; done)), H', ⟨by have := HK1.out; have := HK2.out; omega⟩, ⟨by (with_reducible repeat (first | apply Kd.V_alloc | apply Kd.V_drewN | apply Kd.V_drew)); exact HO306.out⟩, ⟨by (with_reducible repeat (first | refine blk_drewN ?_ _ | refine blk_drew ?_ | refine blk_alloc ?_ _)); exact BK298.out⟩, ⟨by repeat (first | (with_reducible first | exact HB.out | apply below_alloc | apply pw_below_drewN | apply below_drew1 | refine below_set ?_ GE298.out) | exact HB.out)⟩⟩
                  · rw [if_neg c9] at H
                    exact absurd H (by simp)
                · rw [if_neg c8] at H
                  have c8b0 : decide (x5_2 ≤ ((rdOf ByteArray.empty l0 x4_1).size : Int)) = false := decide_eq_false c8
                  clear c8
                  have H' := Aside0.mk H
                  clear H
                  have p302 : 0 ≤ (x4_1 : Int) := of_decide_eq_true (by first | (with_reducible assumption) | assumption)
                  have q302 : x4_1 < (l0.length : Int) := of_decide_eq_true (by first | (with_reducible assumption) | assumption)
                  obtain ⟨ad302, e302, hx302_0⟩ := Kd.at_string HR0.out x4_1 p302 q302
                  cases e302
                  replace hx302_0 := (HB.out.cell (World.block_lt_of_cell? w _ hx302_0)).trans hx302_0
                  replace p302 := eq_true p302
                  replace q302 := eq_true q302
                  go_wp2
                  go_roundg k2
                  case measure => have := HK1.out; have := HK2.out; omega
                  case rel => exact ⟨(x3_2), (wrap64 (x4_1 + 1)), (by first | rfl | (simp; done) | (simp [*]; done)), H', ⟨by have := HK1.out; have := HK2.out; omega⟩, ⟨by (with_reducible repeat (first | apply Kd.V_alloc | apply Kd.V_drewN | apply Kd.V_drew)); exact HO_3.out⟩, ⟨by (with_reducible repeat (first | refine blk_drewN ?_ _ | refine blk_drew ?_ | refine blk_alloc ?_ _)); exact BK298.out⟩, ⟨by repeat (first | (with_reducible first | exact HB.out | apply below_alloc | apply pw_below_drewN | apply below_drew1 | refine below_set ?_ GE298.out) | exact HB.out)⟩⟩
              · rw [if_neg c7] at H
                exact absurd H (by simp)
            · rw [if_neg c6] at H
              exact absurd H (by simp)
      · rw [if_neg c5] at H
        have c5b0 : decide (x4_1 < (l0.length : Int)) = false := decide_eq_false c5
        clear c5
        obtain ⟨y307, hy307⟩ : ∃ y_ : List (S83), y_ = (([] : List (S83))) := ⟨_, rfl⟩
        replace H : (spec_l2Of.l2 k1 l0 x3_1 0 y307) = some r := by first | (rw [hy307]; with_reducible exact H) | (have H2_ := (Option.bind_some _ _).symm.trans H; rw [hy307]; with_reducible exact H2_) | (have H2_ := (Option.bind_some _ _).symm.trans H; with_reducible exact H2_) | with_reducible exact H | (rw [hy307]; exact H) | exact H
        have Ny307 := Aside0.mk hy307
        clear hy307
        have H' := Aside0.mk H
        clear H
        go_wp2_with (first | ((with_reducible refine gate_dst (N := 34) rfl ?_); refine Kd.R_lit k83 _ 83 ?hg (N := 34) ?hd (xs := ([] : List (S83))) (inner := []) (ok := fun _ => True) (okp := fun _ => True) ?hr ?hp (fun _ hk => hk) trivial (Below.refl _ _) (Nat.le_refl _) (by simp) ?_; (case hd => rfl); (case hg => rfl); (case hr => first | (go_simp; done) | (go_simp; rfl)); (case hp => exact (Reps.none _ _)); intro v308 w14 ho15 hb hg_ hnew_; clear hg_ hnew_; (first | rw [← Ny307.out] at ho15 | (simp only [Int.reduceToNat] at ho15; rw [← Ny307.out] at ho15)); have n0_ := Aside0.mk (Kd.V_elder' (by (with_reducible repeat (first | apply Kd.V_alloc | apply Kd.V_drewN | apply Kd.V_drew)); exact HO_3.out) (Kd.R_base ho15) hb); have n1_ := Aside0.mk (Kd.R_lower ho15 (below_size (by repeat (first | (with_reducible first | exact HB.out | apply below_alloc | apply pw_below_drewN | apply below_drew1 | refine below_set ?_ GE298.out) | exact HB.out)))); have n2_ := Aside0.mk (blk_below (g := gb298) (o := .cells #[.slice none 0 0] 31 (0, 0)) (by (with_reducible repeat (first | refine blk_drewN ?_ _ | refine blk_drew ?_ | refine blk_alloc ?_ _)); exact BK298.out) hb); have n3_ := Aside0.mk (below_step (by repeat (first | (with_reducible first | exact HB.out | apply below_alloc | apply pw_below_drewN | apply below_drew1 | refine below_set ?_ GE298.out) | exact HB.out)) hb); clear HO_3; clear BK298; clear HB; have HO_3 := n0_; have HO309 := n1_; have BK298 := n2_; have HB := n3_; clear n0_ n1_ n2_ n3_; clear hb ho15; obtain ⟨Ao16, co16, eo16⟩ := Kd.R_slice HO309.out; subst eo16) | ((with_reducible refine gate_dst (N := 6) rfl ?_); refine box_event ?hg (N := 6) ?hd (cs := #[.slice none 0 0]) (t := 31) ?hr ?_; (case hd => rfl); (case hg => rfl); (case hr => first | (go_simp; done) | (go_simp; rfl)); intro gb310 hg w17 hbox hb; have n0_ := Aside0.mk (Kd.V_below (Kd.V_elderB (by (with_reducible repeat (first | apply Kd.V_alloc | apply Kd.V_drewN | apply Kd.V_drew)); exact HO_3.out) gb310 (Nat.le_of_eq hg.symm)) hb); have n1_ := Aside0.mk (Kd.R_below (by (with_reducible repeat (first | apply Kd.R_alloc | apply Kd.R_drewN | apply Kd.R_drew)); exact HO309.out) hb); have n2_ := Aside0.mk (blk_below (g := gb298) (o := .cells #[.slice none 0 0] 31 (0, 0)) (by (with_reducible repeat (first | refine blk_drewN ?_ _ | refine blk_drew ?_ | refine blk_alloc ?_ _)); exact BK298.out) hb); have n3_ := Aside0.mk (below_step (by repeat (first | (with_reducible first | exact HB.out | apply below_alloc | apply pw_below_drewN | apply below_drew1 | refine below_set ?_ GE298.out) | exact HB.out)) hb); have n4_ := Aside0.mk (hbox); have n5_ := Aside0.mk ((by rw [hg]; exact (below_size (by repeat (first | (with_reducible first | exact HB.out | apply below_alloc | apply pw_below_drewN | apply below_drew1 | refine below_set ?_ GE298.out) | exact HB.out))) : w.heap.size ≤ gb310)); have n6_ := Aside0.mk ((by rw [hg]; exact (below_size (by repeat (first | (with_reducible first | exact HB.out | apply below_alloc | apply pw_below_drewN | apply below_drew1 | refine below_set ?_ GE298.out) | exact HB.out))) : w.heap.size ≤ gb310)); have n7_ := Aside0.mk ((by rw [hg]; exact Nat.ne_of_lt (blk_lt (g := gb298) (o := .cells #[.slice none 0 0] 31 (0, 0)) (by (with_reducible repeat (first | refine blk_drewN ?_ _ | refine blk_drew ?_ | refine blk_alloc ?_ _)); exact BK298.out)) : gb298 ≠ gb310)); have n8_ := Aside0.mk ((by rw [hg]; exact Nat.ne_of_gt (blk_lt (g := gb298) (o := .cells #[.slice none 0 0] 31 (0, 0)) (by (with_reducible repeat (first | refine blk_drewN ?_ _ | refine blk_drew ?_ | refine blk_alloc ?_ _)); exact BK298.out)) : gb310 ≠ gb298)); clear HO_3; clear HO309; clear BK298; clear HB; have HO_3 := n0_; have HO309 := n1_; have BK298 := n2_; have HB := n3_; have BK310 := n4_; have GW310 := n5_; have GE310 := n6_; have NB298_310 := n7_; have NB310_298 := n8_; clear n0_ n1_ n2_ n3_ n4_ n5_ n6_ n7_ n8_; clear hb hbox hg; have hnb18 := NB310_298.out; have hnc18 := NB298_310.out; have hcz19_0 : w17.cell? ⟨gb310, 0, none⟩ = some (.slice none 0 0) := (blk_cell BK310.out 0).trans rfl; have hfz19_0 := blk_frozen BK310.out 0))
        go_loopg [7] k1 (fun kq v7 w' => ∃ (x7_2 : Int) (x311000_2 : List (S83)) (u311000 : Value), v7 = .int .i64 x7_2 ∧ Aside0 (spec_l2Of.l2 kq l0 x3_1 x7_2 x311000_2 = some r) ∧ Aside0 (kq ≤ k1) ∧ Aside0 (Kd.V Kd.string 9 w' w.heap.size (fun k_ => some k_ ≠ (u311000 : Value).ownBlock ∧ k_ ≠ gb298 ∧ k_ ≠ gb310) u3 x3_1) ∧ Aside0 (Kd.R k83 83 w' w.heap.size (fun _ => True) u311000 x311000_2) ∧ Aside0 (w'.heap[gb298]? = some (.cells #[(.slice none 0 0)] 31 (0, 0))) ∧ Aside0 (w'.heap[gb310]? = some (.cells #[u311000] 31 (0, 0))) ∧ Aside0 (Below w.heap.size w w'))
        case atStart => exact ⟨(0), (y307), (.slice Ao16 y307.length co16), (by first | rfl | (simp; done) | (simp [*]; done)), H', ⟨Nat.le_refl _⟩, ⟨by (with_reducible repeat (first | apply Kd.V_alloc | apply Kd.V_drewN | apply Kd.V_drew)); exact Kd.V_mono (V_same_ (Kd.V_far (p := ⟨gb310, 0, none⟩) (Kd.V_mono HO_3.out (fun k_ hk => (⟨hk, hk.2⟩ : _ ∧ k_ ≠ gb310))) (fun _ hk => hk.2) (.slice Ao16 y307.length co16)) rfl) (fun _ hk => ⟨hk.1.1.2, ⟨hk.1.1.1, hk.1.2⟩⟩)⟩, ⟨by (with_reducible repeat (first | apply Kd.R_alloc | apply Kd.R_drewN | apply Kd.R_drew)); exact Kd.R_mono (R_same_ (Kd.R_far (p := ⟨gb310, 0, none⟩) (Kd.R_types HO309.out BK310.out (by decide)) (fun _ hk => hk.2) (.slice Ao16 y307.length co16)) rfl) (fun _ hk => trivial)⟩, ⟨by (with_reducible repeat (first | refine blk_drewN ?_ _ | refine blk_drew ?_ | refine blk_alloc ?_ _)); refine blk_far ?_ NB298_310.out _; (with_reducible repeat (first | refine blk_drewN ?_ _ | refine blk_drew ?_ | refine blk_alloc ?_ _)); exact BK298.out⟩, ⟨by (with_reducible repeat (first | refine blk_drewN ?_ _ | refine blk_drew ?_ | refine blk_alloc ?_ _)); refine blk_put (cs := #[.slice none 0 0]) ?_ 0 _ rfl; (with_reducible repeat (first | refine blk_drewN ?_ _ | refine blk_drew ?_ | refine blk_alloc ?_ _)); exact BK310.out⟩, ⟨by repeat (first | (with_reducible first | exact HB.out | apply below_alloc | apply pw_below_drewN | apply below_drew1 | refine below_set ?_ GE298.out | refine below_set ?_ GE310.out) | exact HB.out)⟩⟩
        case round =>
          clear H'
          try clear c1
          try clear p2
          try clear p3
          try clear q3
          try clear hx3
          try clear c5
          try clear c5b0
          try clear c6
          try clear c6b0
          try clear p6
          try clear c7
          try clear c7b0
          try clear c8
          try clear c8b0
          try clear c9
          try clear c9b0
          try clear c9b1
          try clear c10
          try clear c10b0
          try clear c18
          try clear hcz19_0
          try clear hfz19_0
          try clear hx302_0
          try clear hx303_0
          try clear p2
          try clear p302
          try clear p303
          try clear q302
          try clear q303
          obtain ⟨x7_2, x311000_2, u311000, rfl, HA, HK2, HO_3, HO_311000, BK298, BK310, HB⟩ := hrel
          cases gk with
          | zero => exact absurd HA.out (by simp [spec_l2Of.l2])
          | succ k2 =>
            have H := HA.out
            clear HA
            simp only [spec_l2Of.l2] at H
            by_cases c20 : x7_2 < (x3_1.length : Int)
            · rw [if_pos c20] at H
              have c20b0 : decide (x7_2 < (x3_1.length : Int)) = true := decide_eq_true c20
              clear c20
              by_cases c21 : 0 ≤ x7_2
              · rw [if_pos c21] at H
                have c21b0 : decide (0 ≤ x7_2) = true := decide_eq_true c21
                clear c21
                replace H := Option.bind_eq_some_iff.mp H
                obtain ⟨t312, A220, H⟩ := H
                replace H : (if x7_2 > 0 then (if 0 ≤ (wrap64 (((rdOf ByteArray.empty x3_1 x7_2).size : Int) - 1)) then (if (wrap64 (((rdOf ByteArray.empty x3_1 x7_2).size : Int) - 1)) < ((rdOf ByteArray.empty x3_1 x7_2).size : Int) then (if (wrap64 (((rdOf ByteArray.empty x3_1 x7_2).size : Int) - 1)) ≤ ((rdOf ByteArray.empty x3_1 x7_2).size : Int) then ((spec_l2Place.f k2 x3_1 ((rdOf ByteArray.empty x3_1 x7_2).extract 0 ((wrap64 (((rdOf ByteArray.empty x3_1 x7_2).size : Int) - 1)) : Int).toNat)).bind fun t314 => (if x311000_2.length < 5864062014805 then (spec_l2Of.l2 k2 l0 x3_1 (wrap64 (x7_2 + 1)) (x311000_2 ++ [(⟨((bt (rdOf ByteArray.empty x3_1 x7_2) (wrap64 (((rdOf ByteArray.empty x3_1 x7_2).size : Int) - 1))) - 97) % 256, t314, t312⟩ : S83)])) else (none))) else (none)) else (none)) else (none)) else (if x311000_2.length < 5864062014805 then (spec_l2Of.l2 k2 l0 x3_1 (wrap64 (x7_2 + 1)) (x311000_2 ++ [(⟨(-1), (-1), t312⟩ : S83)])) else (none))) = some r := H
                have A22 := Aside0.mk A220
                clear A220
                by_cases c23 : x7_2 > 0
                · rw [if_pos c23] at H
                  have c23b0 : decide (0 < x7_2) = true := decide_eq_true c23
                  clear c23
                  obtain ⟨ji24, hji24⟩ : ∃ j_ : Int, (wrap64 (((rdOf ByteArray.empty x3_1 x7_2).size : Int) - 1)) = j_ := ⟨_, rfl⟩
                  replace H : (if 0 ≤ (ji24) then (if (ji24) < ((rdOf ByteArray.empty x3_1 x7_2).size : Int) then (if (ji24) ≤ ((rdOf ByteArray.empty x3_1 x7_2).size : Int) then ((spec_l2Place.f k2 x3_1 ((rdOf ByteArray.empty x3_1 x7_2).extract 0 ((ji24) : Int).toNat)).bind fun t314 => (if x311000_2.length < 5864062014805 then (spec_l2Of.l2 k2 l0 x3_1 (wrap64 (x7_2 + 1)) (x311000_2 ++ [(⟨((bt (rdOf ByteArray.empty x3_1 x7_2) (ji24)) - 97) % 256, t314, t312⟩ : S83)])) else (none))) else (none)) else (none)) else (none)) = some r := by first | (rw [hji24] at H; exact H) | (simp only [hji24] at H ⊢; exact H)
                  (try rw [hji24] at A22)
                  have hji24w : (IntKind.i64.wrap (((rdOf ByteArray.empty x3_1 x7_2).size : Int) - 1)) = ji24 := (i64_w _).trans hji24
                  by_cases c25 : 0 ≤ (ji24)
                  · rw [if_pos c25] at H
                    have c25b0 : decide (0 ≤ (ji24)) = true := decide_eq_true c25
                    clear c25
                    by_cases c26 : (ji24) < ((rdOf ByteArray.empty x3_1 x7_2).size : Int)
                    · rw [if_pos c26] at H
                      have c26b0 : decide ((ji24) < ((rdOf ByteArray.empty x3_1 x7_2).size : Int)) = true := decide_eq_true c26
                      clear c26
                      have c28b0 := eq_true (of_decide_eq_true (by first | (with_reducible assumption) | assumption) : 0 ≤ (ji24))
                      by_cases c29 : (ji24) ≤ ((rdOf ByteArray.empty x3_1 x7_2).size : Int)
                      · rw [if_pos c29] at H
                        have c29b0 := eq_true c29
                        have c29b1 : decide ((ji24) ≤ ((rdOf ByteArray.empty x3_1 x7_2).size : Int)) = true := decide_eq_true c29
                        clear c29
                        replace H := Option.bind_eq_some_iff.mp H
                        obtain ⟨t314, A300, H⟩ := H
                        replace H : (if x311000_2.length < 5864062014805 then (spec_l2Of.l2 k2 l0 x3_1 (wrap64 (x7_2 + 1)) (x311000_2 ++ [(⟨((bt (rdOf ByteArray.empty x3_1 x7_2) (ji24)) - 97) % 256, t314, t312⟩ : S83)])) else (none)) = some r := H
                        have A30 := Aside0.mk A300
                        clear A300
                        by_cases c31 : x311000_2.length < 5864062014805
                        · rw [if_pos c31] at H
                          have LMc31 := Aside0.mk c31
                          clear c31
                          obtain ⟨y315, hy315⟩ : ∃ y_ : List (S83), y_ = (x311000_2 ++ [(⟨((bt (rdOf ByteArray.empty x3_1 x7_2) (ji24)) - 97) % 256, t314, t312⟩ : S83)]) := ⟨_, rfl⟩
                          replace H : (spec_l2Of.l2 k2 l0 x3_1 (wrap64 (x7_2 + 1)) y315) = some r := by first | (rw [hy315]; with_reducible exact H) | (have H2_ := (Option.bind_some _ _).symm.trans H; rw [hy315]; with_reducible exact H2_) | (have H2_ := (Option.bind_some _ _).symm.trans H; with_reducible exact H2_) | with_reducible exact H | (rw [hy315]; exact H) | exact H
                          have Ny315 := Aside0.mk hy315
                          clear hy315
                          have H' := Aside0.mk H
                          clear H
                          obtain ⟨Ao32, co32, eo32⟩ := Kd.V_slice HO_3.out
                          subst eo32
                          have p311 : 0 ≤ (x7_2 : Int) := of_decide_eq_true (by first | (with_reducible assumption) | assumption)
                          have q311 : x7_2 < (x3_1.length : Int) := of_decide_eq_true (by first | (with_reducible assumption) | assumption)
                          obtain ⟨ad311, e311, hx311_0⟩ := Kd.at_string (Kd.V_reads' HO_3.out).2.2 x7_2 p311 q311
                          cases e311
                          replace p311 := eq_true p311
                          replace q311 := eq_true q311
                          go_wp2_with (first | ((with_reducible refine gate_callee (f := 58) rfl ?_); refine goesL_ (some 48) rfl rfl Tryz.func58 (by kernel_rfl) rfl #[.slice A0 l0.length c0, .string (rdOf ByteArray.empty x3_1 x7_2)] rfl (by (try simp only [List.map_toArray, List.map_cons, List.map_nil]); first | done | rfl | (simp only [List.length_drop, List.length_take]; rfl)) ?_; (with_reducible refine (spec_l2Has.calls k2 _ _ l0 (rdOf ByteArray.empty x3_1 x7_2) t312 _ ?side1 ?side2 A22.out).mono ?_); (case side1 => repeat (first | exact (Kd.C_below HR0.out HB.out) | (with_reducible refine Kd.C_alloc ?_ _) | (with_reducible refine Kd.C_drewN ?_ _) | (with_reducible refine Kd.C_drew ?_))); (case side2 => exact HC0.out); rintro e w' ⟨rfl, ⟨nd, rfl⟩⟩; refine ⟨_, rfl, ?_⟩; (try (rw [drewN_self wr]; generalize hq_ : World.drewN wr _ = wr; have n0_ : Aside0 (Kd.V Kd.string 9 wr w.heap.size (fun k_ => some k_ ≠ (u311000 : Value).ownBlock ∧ k_ ≠ gb298 ∧ k_ ≠ gb310) (.slice (some ad311) x3_1.length co32) x3_1) := ⟨by rw [← hq_]; exact (by (with_reducible repeat (first | apply Kd.V_alloc | apply Kd.V_drewN | apply Kd.V_drew)); exact HO_3.out)⟩; have n1_ : Aside0 (Kd.R k83 83 wr w.heap.size (fun _ => True) u311000 x311000_2) := ⟨by rw [← hq_]; exact (by (with_reducible repeat (first | apply Kd.R_alloc | apply Kd.R_drewN | apply Kd.R_drew)); exact HO_311000.out)⟩; have n2_ : Aside0 (wr.heap[gb298]? = some (.cells #[.slice none 0 0] 31 (0, 0))) := ⟨by rw [← hq_]; exact (by (with_reducible repeat (first | refine blk_drewN ?_ _ | refine blk_drew ?_ | refine blk_alloc ?_ _)); exact BK298.out)⟩; have n3_ : Aside0 (wr.heap[gb310]? = some (.cells #[u311000] 31 (0, 0))) := ⟨by rw [← hq_]; exact (by (with_reducible repeat (first | refine blk_drewN ?_ _ | refine blk_drew ?_ | refine blk_alloc ?_ _)); exact BK310.out)⟩; have n4_ : Aside0 (Below w.heap.size w wr) := ⟨by rw [← hq_]; exact (by repeat (first | (with_reducible first | exact HB.out | apply below_alloc | apply pw_below_drewN | apply below_drew1 | refine below_set ?_ GE298.out | refine below_set ?_ GE310.out) | exact HB.out))⟩; clear HO_3 HO_311000 BK298 BK310 HB hq_; have HO_3 := n0_; have HO_311000 := n1_; have BK298 := n2_; have BK310 := n3_; have HB := n4_; clear n0_ n1_ n2_ n3_ n4_))) | ((with_reducible refine gate_dst (N := 9) rfl ?_); refine box_event ?hg (N := 9) ?hd (cs := #[.int .i64 0, .int .i64 0, .bool false]) (t := 83) ?hr ?_; (case hd => rfl); (case hg => rfl); (case hr => first | (go_simp; done) | (go_simp; rfl)); intro gb313 hg w33 hbox hb; have n0_ := Aside0.mk (Kd.V_below (Kd.V_elderB (by (with_reducible repeat (first | apply Kd.V_alloc | apply Kd.V_drewN | apply Kd.V_drew)); exact HO_3.out) gb313 (Nat.le_of_eq hg.symm)) hb); have n1_ := Aside0.mk (Kd.R_below (Kd.R_elderB (by (with_reducible repeat (first | apply Kd.R_alloc | apply Kd.R_drewN | apply Kd.R_drew)); exact HO_311000.out) gb313 (Nat.le_of_eq hg.symm)) hb); have n2_ := Aside0.mk (blk_below (g := gb298) (o := .cells #[.slice none 0 0] 31 (0, 0)) (by (with_reducible repeat (first | refine blk_drewN ?_ _ | refine blk_drew ?_ | refine blk_alloc ?_ _)); exact BK298.out) hb); have n3_ := Aside0.mk (blk_below (g := gb310) (o := .cells #[u311000] 31 (0, 0)) (by (with_reducible repeat (first | refine blk_drewN ?_ _ | refine blk_drew ?_ | refine blk_alloc ?_ _)); exact BK310.out) hb); have n4_ := Aside0.mk (below_step (by repeat (first | (with_reducible first | exact HB.out | apply below_alloc | apply pw_below_drewN | apply below_drew1 | refine below_set ?_ GE298.out | refine below_set ?_ GE310.out) | exact HB.out)) hb); have n5_ := Aside0.mk (hbox); have n6_ := Aside0.mk ((by rw [hg]; exact (below_size (by repeat (first | (with_reducible first | exact HB.out | apply below_alloc | apply pw_below_drewN | apply below_drew1 | refine below_set ?_ GE298.out | refine below_set ?_ GE310.out) | exact HB.out))) : w.heap.size ≤ gb313)); have n7_ := Aside0.mk ((by rw [hg]; exact (below_size (by repeat (first | (with_reducible first | exact HB.out | apply below_alloc | apply pw_below_drewN | apply below_drew1 | refine below_set ?_ GE298.out | refine below_set ?_ GE310.out) | exact HB.out))) : w.heap.size ≤ gb313)); have n8_ := Aside0.mk ((by rw [hg]; exact Nat.ne_of_lt (blk_lt (g := gb298) (o := .cells #[.slice none 0 0] 31 (0, 0)) (by (with_reducible repeat (first | refine blk_drewN ?_ _ | refine blk_drew ?_ | refine blk_alloc ?_ _)); exact BK298.out)) : gb298 ≠ gb313)); have n9_ := Aside0.mk ((by rw [hg]; exact Nat.ne_of_gt (blk_lt (g := gb298) (o := .cells #[.slice none 0 0] 31 (0, 0)) (by (with_reducible repeat (first | refine blk_drewN ?_ _ | refine blk_drew ?_ | refine blk_alloc ?_ _)); exact BK298.out)) : gb313 ≠ gb298)); have n10_ := Aside0.mk ((by rw [hg]; exact Nat.ne_of_lt (blk_lt (g := gb310) (o := .cells #[u311000] 31 (0, 0)) (by (with_reducible repeat (first | refine blk_drewN ?_ _ | refine blk_drew ?_ | refine blk_alloc ?_ _)); exact BK310.out)) : gb310 ≠ gb313)); have n11_ := Aside0.mk ((by rw [hg]; exact Nat.ne_of_gt (blk_lt (g := gb310) (o := .cells #[u311000] 31 (0, 0)) (by (with_reducible repeat (first | refine blk_drewN ?_ _ | refine blk_drew ?_ | refine blk_alloc ?_ _)); exact BK310.out)) : gb313 ≠ gb310)); clear HO_3; clear HO_311000; clear BK298; clear BK310; clear HB; have HO_3 := n0_; have HO_311000 := n1_; have BK298 := n2_; have BK310 := n3_; have HB := n4_; have BK313 := n5_; have GW313 := n6_; have GE313 := n7_; have NB298_313 := n8_; have NB313_298 := n9_; have NB310_313 := n10_; have NB313_310 := n11_; clear n0_ n1_ n2_ n3_ n4_ n5_ n6_ n7_ n8_ n9_ n10_ n11_; clear hb hbox hg; have hnb34 := NB313_298.out; have hnc34 := NB298_313.out; have hnb35 := NB313_310.out; have hnc35 := NB310_313.out; have hcz36_0 : w33.cell? ⟨gb313, 0, none⟩ = some (.int .i64 0) := (blk_cell BK313.out 0).trans rfl; have hcz36_1 : w33.cell? ⟨gb313, 1, none⟩ = some (.int .i64 0) := (blk_cell BK313.out 1).trans rfl; have hcz36_2 : w33.cell? ⟨gb313, 2, none⟩ = some (.bool false) := (blk_cell BK313.out 2).trans rfl; have hfz36_0 := blk_frozen BK313.out 0; have hfz36_1 := blk_frozen BK313.out 1; have hfz36_2 := blk_frozen BK313.out 2; have p27 : 0 ≤ ((ji24) : Int) := of_decide_eq_true (by first | (with_reducible assumption) | assumption); have q27 : (ji24) < ((rdOf ByteArray.empty x3_1 x7_2).size : Int) := of_decide_eq_true (by first | (with_reducible assumption) | assumption); have hx27 := bt_at (rdOf ByteArray.empty x3_1 x7_2) (ji24); replace p27 := eq_true p27; replace q27 := eq_true q27) | ((with_reducible refine gate_callee (f := 98) rfl ?_); refine goesL_ (some 66) rfl rfl Tryz.func98 (by kernel_rfl) rfl #[.slice (some ad311) x3_1.length co32, .string ((rdOf ByteArray.empty x3_1 x7_2).extract 0 ((ji24) : Int).toNat)] rfl (by (try simp only [List.map_toArray, List.map_cons, List.map_nil]); first | done | (simp only [hji24]; rfl) | rfl | (simp only [List.length_drop, List.length_take]; rfl)) ?_; (with_reducible refine (spec_l2Place.calls k2 _ _ x3_1 ((rdOf ByteArray.empty x3_1 x7_2).extract 0 ((ji24) : Int).toNat) t314 _ ?side1 ?side2 A30.out).mono ?_); (case side1 => refine (Kd.V_reads' (e := 9) (base := w.heap.size) (ok := fun k_ => ((some k_ ≠ (u311000 : Value).ownBlock ∧ (k_ ≠ gb298 ∧ k_ ≠ gb310)) ∧ k_ ≠ gb313)) (n := x3_1.length) (c := co32) ?_).2.2; exact (by (with_reducible repeat (first | apply Kd.V_alloc | apply Kd.V_drewN | apply Kd.V_drew)); exact (Kd.V_mono (V_same_ (Kd.V_far (p := ⟨gb313, 0, none⟩) (Kd.V_far (p := ⟨gb313, 2, none⟩) (Kd.V_far (p := ⟨gb313, 1, none⟩) (Kd.V_far (p := ⟨gb313, 0, none⟩) (Kd.V_mono HO_3.out (fun k_ hk => (⟨hk, hk.2⟩ : _ ∧ k_ ≠ gb313))) (fun _ hk => hk.2) (.int .i64 (-1))) (fun _ hk => hk.2) (.int .i64 (-1))) (fun _ hk => hk.2) (.bool t312)) (fun _ hk => hk.2) (.int .i64 (((bt (rdOf ByteArray.empty x3_1 x7_2) (ji24)) - 97) % 256))) rfl) (fun _ h_ => h_.1)))); (case side2 => exact (Kd.V_reads' HO_3.out).2.1); rintro e w' ⟨rfl, ⟨nd, rfl⟩⟩; refine ⟨_, rfl, ?_⟩; have hnb37 := NB310_298.out; have hnc37 := NB298_310.out; have hcz38_0 : w33.cell? ⟨gb310, 0, none⟩ = some (u311000) := (blk_cell BK310.out 0).trans rfl; have hfz38_0 := blk_frozen BK310.out 0) | ((with_reducible refine gate_builtin (b := .append) (xs := #[.tmp 69, .tmp 71]) rfl ?_); at_builtin; refine Kd.R_append k83 (w0 := w) w.heap.size rfl (.tmp 69) (.tmp 71) 29 83 (.agg #[(.int .i64 0), (.int .i64 0), (.bool false)]) 24 rfl Tryz.underlying29 info83 rfl (by decide) (by omega) u311000 x311000_2 (⟨((bt (rdOf ByteArray.empty x3_1 x7_2) (ji24)) - 97) % 256, t314, t312⟩ : S83) [.int .i64 (((bt (rdOf ByteArray.empty x3_1 x7_2) (ji24)) - 97) % 256), .int .i64 t314, .bool t312] (fun k_ => k_ ≠ gb313) (fun _ => False) rfl (by first | (go_simp; done) | (go_simp; rfl)) ?aP (fun _ hk => hk.elim) ?aF ?aO ?aB ?aS ?aL ?_; (case aP => exact k83_mkM _ _ _ (⟨((bt (rdOf ByteArray.empty x3_1 x7_2) (ji24)) - 97) % 256, t314, t312⟩ : S83)); (case aB => exact (by repeat (first | (with_reducible first | exact HB.out | apply below_alloc | apply pw_below_drewN | apply below_drew1 | refine below_set ?_ GE298.out | refine below_set ?_ GE310.out | refine below_set ?_ GE313.out) | exact HB.out))); (case aF => exact (fun k_ hk => Kd.freshB (g := gb313) (o := .cells #[.int .i64 (((bt (rdOf ByteArray.empty x3_1 x7_2) (ji24)) - 97) % 256), .int .i64 t314, .bool t312] 83 (0, 0)) (by (with_reducible repeat (first | refine blk_drewN ?_ _ | refine blk_drew ?_ | refine blk_alloc ?_ _)); refine blk_put (cs := #[.int .i64 (((bt (rdOf ByteArray.empty x3_1 x7_2) (ji24)) - 97) % 256), .int .i64 (-1), .bool t312]) ?_ 1 _ rfl; (with_reducible repeat (first | refine blk_drewN ?_ _ | refine blk_drew ?_ | refine blk_alloc ?_ _)); refine blk_put (cs := #[.int .i64 (-1), .int .i64 (-1), .bool t312]) ?_ 0 _ rfl; (with_reducible repeat (first | refine blk_drewN ?_ _ | refine blk_drew ?_ | refine blk_alloc ?_ _)); refine blk_put (cs := #[.int .i64 (-1), .int .i64 (-1), .bool false]) ?_ 2 _ rfl; (with_reducible repeat (first | refine blk_drewN ?_ _ | refine blk_drew ?_ | refine blk_alloc ?_ _)); refine blk_put (cs := #[.int .i64 (-1), .int .i64 0, .bool false]) ?_ 1 _ rfl; (with_reducible repeat (first | refine blk_drewN ?_ _ | refine blk_drew ?_ | refine blk_alloc ?_ _)); refine blk_put (cs := #[.int .i64 0, .int .i64 0, .bool false]) ?_ 0 _ rfl; (with_reducible repeat (first | refine blk_drewN ?_ _ | refine blk_drew ?_ | refine blk_alloc ?_ _)); exact BK313.out) k_ hk)); (case aO => exact (by (with_reducible repeat (first | apply Kd.R_alloc | apply Kd.R_drewN | apply Kd.R_drew)); exact Kd.R_mono (R_same_ (Kd.R_far (p := ⟨gb313, 1, none⟩) (Kd.R_far (p := ⟨gb313, 0, none⟩) (Kd.R_far (p := ⟨gb313, 2, none⟩) (Kd.R_far (p := ⟨gb313, 1, none⟩) (Kd.R_far (p := ⟨gb313, 0, none⟩) (Kd.R_mono HO_311000.out (fun k_ hk => (⟨hk, hk.2⟩ : _ ∧ k_ ≠ gb313))) (fun _ hk => hk.2) (.int .i64 (-1))) (fun _ hk => hk.2) (.int .i64 (-1))) (fun _ hk => hk.2) (.bool t312)) (fun _ hk => hk.2) (.int .i64 (((bt (rdOf ByteArray.empty x3_1 x7_2) (ji24)) - 97) % 256))) (fun _ hk => hk.2) (.int .i64 t314)) rfl) (fun _ hk => hk.1.2))); (case aS => exact (below_size (by repeat (first | (with_reducible first | exact HB.out | apply below_alloc | apply pw_below_drewN | apply below_drew1 | refine below_set ?_ GE298.out | refine below_set ?_ GE310.out | refine below_set ?_ GE313.out) | exact HB.out)))); (case aL => have := LMc31.out; omega); intro v316 w39 ho hb hg hat; rw [← Ny315.out] at ho; have n0_ := Aside0.mk (Kd.V_afterv (ok := (fun k_ => k_ ≠ gb298 ∧ k_ ≠ gb310 ∧ k_ ≠ gb313)) (by (with_reducible repeat (first | apply Kd.V_alloc | apply Kd.V_drewN | apply Kd.V_drew)); exact Kd.V_mono (V_same_ (Kd.V_far (p := ⟨gb313, 1, none⟩) (Kd.V_far (p := ⟨gb313, 0, none⟩) (Kd.V_far (p := ⟨gb313, 2, none⟩) (Kd.V_far (p := ⟨gb313, 1, none⟩) (Kd.V_far (p := ⟨gb313, 0, none⟩) (Kd.V_mono HO_3.out (fun k_ hk => (⟨hk, hk.2⟩ : _ ∧ k_ ≠ gb313))) (fun _ hk => hk.2) (.int .i64 (-1))) (fun _ hk => hk.2) (.int .i64 (-1))) (fun _ hk => hk.2) (.bool t312)) (fun _ hk => hk.2) (.int .i64 (((bt (rdOf ByteArray.empty x3_1 x7_2) (ji24)) - 97) % 256))) (fun _ hk => hk.2) (.int .i64 t314)) rfl) (fun _ hk => ⟨⟨hk.1.1.2.1, ⟨hk.1.1.2.2, hk.1.2⟩⟩, hk.1.1.1⟩)) hg hat); have n1_ := Aside0.mk (blk_grown (g := gb298) (o := .cells #[.slice none 0 0] 31 (0, 0)) (by (with_reducible repeat (first | refine blk_drewN ?_ _ | refine blk_drew ?_ | refine blk_alloc ?_ _)); refine blk_far ?_ NB298_313.out _; (with_reducible repeat (first | refine blk_drewN ?_ _ | refine blk_drew ?_ | refine blk_alloc ?_ _)); refine blk_far ?_ NB298_313.out _; (with_reducible repeat (first | refine blk_drewN ?_ _ | refine blk_drew ?_ | refine blk_alloc ?_ _)); refine blk_far ?_ NB298_313.out _; (with_reducible repeat (first | refine blk_drewN ?_ _ | refine blk_drew ?_ | refine blk_alloc ?_ _)); refine blk_far ?_ NB298_313.out _; (with_reducible repeat (first | refine blk_drewN ?_ _ | refine blk_drew ?_ | refine blk_alloc ?_ _)); refine blk_far ?_ NB298_313.out _; (with_reducible repeat (first | refine blk_drewN ?_ _ | refine blk_drew ?_ | refine blk_alloc ?_ _)); exact BK298.out) hg (Kd.R_ne HO_311000.out BK298.out (by decide))); have n2_ := Aside0.mk (blk_grown (g := gb310) (o := .cells #[u311000] 31 (0, 0)) (by (with_reducible repeat (first | refine blk_drewN ?_ _ | refine blk_drew ?_ | refine blk_alloc ?_ _)); refine blk_far ?_ NB310_313.out _; (with_reducible repeat (first | refine blk_drewN ?_ _ | refine blk_drew ?_ | refine blk_alloc ?_ _)); refine blk_far ?_ NB310_313.out _; (with_reducible repeat (first | refine blk_drewN ?_ _ | refine blk_drew ?_ | refine blk_alloc ?_ _)); refine blk_far ?_ NB310_313.out _; (with_reducible repeat (first | refine blk_drewN ?_ _ | refine blk_drew ?_ | refine blk_alloc ?_ _)); refine blk_far ?_ NB310_313.out _; (with_reducible repeat (first | refine blk_drewN ?_ _ | refine blk_drew ?_ | refine blk_alloc ?_ _)); refine blk_far ?_ NB310_313.out _; (with_reducible repeat (first | refine blk_drewN ?_ _ | refine blk_drew ?_ | refine blk_alloc ?_ _)); exact BK310.out) hg (Kd.R_ne HO_311000.out BK310.out (by decide))); have n3_ := Aside0.mk (blk_grown (g := gb313) (o := .cells #[.int .i64 (((bt (rdOf ByteArray.empty x3_1 x7_2) (ji24)) - 97) % 256), .int .i64 t314, .bool t312] 83 (0, 0)) (by (with_reducible repeat (first | refine blk_drewN ?_ _ | refine blk_drew ?_ | refine blk_alloc ?_ _)); refine blk_put (cs := #[.int .i64 (((bt (rdOf ByteArray.empty x3_1 x7_2) (ji24)) - 97) % 256), .int .i64 (-1), .bool t312]) ?_ 1 _ rfl; (with_reducible repeat (first | refine blk_drewN ?_ _ | refine blk_drew ?_ | refine blk_alloc ?_ _)); refine blk_put (cs := #[.int .i64 (-1), .int .i64 (-1), .bool t312]) ?_ 0 _ rfl; (with_reducible repeat (first | refine blk_drewN ?_ _ | refine blk_drew ?_ | refine blk_alloc ?_ _)); refine blk_put (cs := #[.int .i64 (-1), .int .i64 (-1), .bool false]) ?_ 2 _ rfl; (with_reducible repeat (first | refine blk_drewN ?_ _ | refine blk_drew ?_ | refine blk_alloc ?_ _)); refine blk_put (cs := #[.int .i64 (-1), .int .i64 0, .bool false]) ?_ 1 _ rfl; (with_reducible repeat (first | refine blk_drewN ?_ _ | refine blk_drew ?_ | refine blk_alloc ?_ _)); refine blk_put (cs := #[.int .i64 0, .int .i64 0, .bool false]) ?_ 0 _ rfl; (with_reducible repeat (first | refine blk_drewN ?_ _ | refine blk_drew ?_ | refine blk_alloc ?_ _)); exact BK313.out) hg (Kd.R_away HO_311000.out (fun _ hk => hk.2))); have n4_ := Aside0.mk (hb); have n5_ := Aside0.mk (ho); clear HO_3; clear BK298; clear BK310; clear BK313; clear HB; clear HO_311000; have HO_3 := n0_; have BK298 := n1_; have BK310 := n2_; have BK313 := n3_; have HB := n4_; have HO317 := n5_; clear n0_ n1_ n2_ n3_ n4_ n5_; clear ho hb hg hat; obtain ⟨Ao40, co40, eo40⟩ := Kd.R_slice HO317.out; subst eo40; have hcz41_0 : w39.cell? ⟨gb310, 0, none⟩ = some (u311000) := (blk_cell BK310.out 0).trans rfl; have hfz41_0 := blk_frozen BK310.out 0))
                          go_roundg k2
                          case measure => have := HK1.out; have := HK2.out; omega
                          case rel => exact ⟨(wrap64 (x7_2 + 1)), (y315), (.slice Ao40 y315.length co40), (by first | rfl | (simp; done) | (simp [*]; done)), H', ⟨by have := HK1.out; have := HK2.out; omega⟩, ⟨by (with_reducible repeat (first | apply Kd.V_alloc | apply Kd.V_drewN | apply Kd.V_drew)); exact Kd.V_mono (V_same_ (Kd.V_far (p := ⟨gb310, 0, none⟩) (Kd.V_mono HO_3.out (fun k_ hk => (⟨hk, hk.1.2.1⟩ : _ ∧ k_ ≠ gb310))) (fun _ hk => hk.2) (.slice Ao40 y315.length co40)) rfl) (fun _ hk => ⟨hk.1.2, ⟨hk.1.1.1, hk.1.1.2.1⟩⟩)⟩, ⟨by (with_reducible repeat (first | apply Kd.R_alloc | apply Kd.R_drewN | apply Kd.R_drew)); exact Kd.R_mono (R_same_ (Kd.R_far (p := ⟨gb310, 0, none⟩) (Kd.R_types HO317.out BK310.out (by decide)) (fun _ hk => hk.2) (.slice Ao40 y315.length co40)) rfl) (fun _ hk => trivial)⟩, ⟨by (with_reducible repeat (first | refine blk_drewN ?_ _ | refine blk_drew ?_ | refine blk_alloc ?_ _)); refine blk_far ?_ NB298_310.out _; (with_reducible repeat (first | refine blk_drewN ?_ _ | refine blk_drew ?_ | refine blk_alloc ?_ _)); exact BK298.out⟩, ⟨by (with_reducible repeat (first | refine blk_drewN ?_ _ | refine blk_drew ?_ | refine blk_alloc ?_ _)); refine blk_put (cs := #[u311000]) ?_ 0 _ rfl; (with_reducible repeat (first | refine blk_drewN ?_ _ | refine blk_drew ?_ | refine blk_alloc ?_ _)); exact BK310.out⟩, ⟨by repeat (first | (with_reducible first | exact HB.out | apply below_alloc | apply pw_below_drewN | apply below_drew1 | refine below_set ?_ GE298.out | refine below_set ?_ GE310.out | refine below_set ?_ GE313.out) | exact HB.out)⟩⟩
                        · rw [if_neg c31] at H
                          exact absurd H (by simp)
                      · rw [if_neg c29] at H
                        exact absurd H (by simp)
                    · rw [if_neg c26] at H
                      exact absurd H (by simp)
                  · rw [if_neg c25] at H
                    exact absurd H (by simp)
                · rw [if_neg c23] at H
                  have c23b0 : decide (0 < x7_2) = false := decide_eq_false c23
                  clear c23
                  by_cases c42 : x311000_2.length < 5864062014805
                  · rw [if_pos c42] at H
                    have LMc42 := Aside0.mk c42
                    clear c42
                    obtain ⟨y318, hy318⟩ : ∃ y_ : List (S83), y_ = (x311000_2 ++ [(⟨(-1), (-1), t312⟩ : S83)]) := ⟨_, rfl⟩
                    replace H : (spec_l2Of.l2 k2 l0 x3_1 (wrap64 (x7_2 + 1)) y318) = some r := by first | (rw [hy318]; with_reducible exact H) | (have H2_ := (Option.bind_some _ _).symm.trans H; rw [hy318]; with_reducible exact H2_) | (have H2_ := (Option.bind_some _ _).symm.trans H; with_reducible exact H2_) | with_reducible exact H | (rw [hy318]; exact H) | exact H
                    have Ny318 := Aside0.mk hy318
                    clear hy318
                    have H' := Aside0.mk H
                    clear H
                    obtain ⟨Ao43, co43, eo43⟩ := Kd.V_slice HO_3.out
                    subst eo43
                    have p311 : 0 ≤ (x7_2 : Int) := of_decide_eq_true (by first | (with_reducible assumption) | assumption)
                    have q311 : x7_2 < (x3_1.length : Int) := of_decide_eq_true (by first | (with_reducible assumption) | assumption)
                    obtain ⟨ad311, e311, hx311_0⟩ := Kd.at_string (Kd.V_reads' HO_3.out).2.2 x7_2 p311 q311
                    cases e311
                    replace p311 := eq_true p311
                    replace q311 := eq_true q311
                    go_wp2_with (first | ((with_reducible refine gate_callee (f := 58) rfl ?_); refine goesL_ (some 48) rfl rfl Tryz.func58 (by kernel_rfl) rfl #[.slice A0 l0.length c0, .string (rdOf ByteArray.empty x3_1 x7_2)] rfl (by (try simp only [List.map_toArray, List.map_cons, List.map_nil]); first | done | rfl | (simp only [List.length_drop, List.length_take]; rfl)) ?_; (with_reducible refine (spec_l2Has.calls k2 _ _ l0 (rdOf ByteArray.empty x3_1 x7_2) t312 _ ?side1 ?side2 A22.out).mono ?_); (case side1 => repeat (first | exact (Kd.C_below HR0.out HB.out) | (with_reducible refine Kd.C_alloc ?_ _) | (with_reducible refine Kd.C_drewN ?_ _) | (with_reducible refine Kd.C_drew ?_))); (case side2 => exact HC0.out); rintro e w' ⟨rfl, ⟨nd, rfl⟩⟩; refine ⟨_, rfl, ?_⟩; (try (rw [drewN_self wr]; generalize hq_ : World.drewN wr _ = wr; have n0_ : Aside0 (Kd.V Kd.string 9 wr w.heap.size (fun k_ => some k_ ≠ (u311000 : Value).ownBlock ∧ k_ ≠ gb298 ∧ k_ ≠ gb310) (.slice (some ad311) x3_1.length co43) x3_1) := ⟨by rw [← hq_]; exact (by (with_reducible repeat (first | apply Kd.V_alloc | apply Kd.V_drewN | apply Kd.V_drew)); exact HO_3.out)⟩; have n1_ : Aside0 (Kd.R k83 83 wr w.heap.size (fun _ => True) u311000 x311000_2) := ⟨by rw [← hq_]; exact (by (with_reducible repeat (first | apply Kd.R_alloc | apply Kd.R_drewN | apply Kd.R_drew)); exact HO_311000.out)⟩; have n2_ : Aside0 (wr.heap[gb298]? = some (.cells #[.slice none 0 0] 31 (0, 0))) := ⟨by rw [← hq_]; exact (by (with_reducible repeat (first | refine blk_drewN ?_ _ | refine blk_drew ?_ | refine blk_alloc ?_ _)); exact BK298.out)⟩; have n3_ : Aside0 (wr.heap[gb310]? = some (.cells #[u311000] 31 (0, 0))) := ⟨by rw [← hq_]; exact (by (with_reducible repeat (first | refine blk_drewN ?_ _ | refine blk_drew ?_ | refine blk_alloc ?_ _)); exact BK310.out)⟩; have n4_ : Aside0 (Below w.heap.size w wr) := ⟨by rw [← hq_]; exact (by repeat (first | (with_reducible first | exact HB.out | apply below_alloc | apply pw_below_drewN | apply below_drew1 | refine below_set ?_ GE298.out | refine below_set ?_ GE310.out) | exact HB.out))⟩; clear HO_3 HO_311000 BK298 BK310 HB hq_; have HO_3 := n0_; have HO_311000 := n1_; have BK298 := n2_; have BK310 := n3_; have HB := n4_; clear n0_ n1_ n2_ n3_ n4_))) | ((with_reducible refine gate_dst (N := 9) rfl ?_); refine box_event ?hg (N := 9) ?hd (cs := #[.int .i64 0, .int .i64 0, .bool false]) (t := 83) ?hr ?_; (case hd => rfl); (case hg => rfl); (case hr => first | (go_simp; done) | (go_simp; rfl)); intro gb313 hg w44 hbox hb; have n0_ := Aside0.mk (Kd.V_below (Kd.V_elderB (by (with_reducible repeat (first | apply Kd.V_alloc | apply Kd.V_drewN | apply Kd.V_drew)); exact HO_3.out) gb313 (Nat.le_of_eq hg.symm)) hb); have n1_ := Aside0.mk (Kd.R_below (Kd.R_elderB (by (with_reducible repeat (first | apply Kd.R_alloc | apply Kd.R_drewN | apply Kd.R_drew)); exact HO_311000.out) gb313 (Nat.le_of_eq hg.symm)) hb); have n2_ := Aside0.mk (blk_below (g := gb298) (o := .cells #[.slice none 0 0] 31 (0, 0)) (by (with_reducible repeat (first | refine blk_drewN ?_ _ | refine blk_drew ?_ | refine blk_alloc ?_ _)); exact BK298.out) hb); have n3_ := Aside0.mk (blk_below (g := gb310) (o := .cells #[u311000] 31 (0, 0)) (by (with_reducible repeat (first | refine blk_drewN ?_ _ | refine blk_drew ?_ | refine blk_alloc ?_ _)); exact BK310.out) hb); have n4_ := Aside0.mk (below_step (by repeat (first | (with_reducible first | exact HB.out | apply below_alloc | apply pw_below_drewN | apply below_drew1 | refine below_set ?_ GE298.out | refine below_set ?_ GE310.out) | exact HB.out)) hb); have n5_ := Aside0.mk (hbox); have n6_ := Aside0.mk ((by rw [hg]; exact (below_size (by repeat (first | (with_reducible first | exact HB.out | apply below_alloc | apply pw_below_drewN | apply below_drew1 | refine below_set ?_ GE298.out | refine below_set ?_ GE310.out) | exact HB.out))) : w.heap.size ≤ gb313)); have n7_ := Aside0.mk ((by rw [hg]; exact (below_size (by repeat (first | (with_reducible first | exact HB.out | apply below_alloc | apply pw_below_drewN | apply below_drew1 | refine below_set ?_ GE298.out | refine below_set ?_ GE310.out) | exact HB.out))) : w.heap.size ≤ gb313)); have n8_ := Aside0.mk ((by rw [hg]; exact Nat.ne_of_lt (blk_lt (g := gb298) (o := .cells #[.slice none 0 0] 31 (0, 0)) (by (with_reducible repeat (first | refine blk_drewN ?_ _ | refine blk_drew ?_ | refine blk_alloc ?_ _)); exact BK298.out)) : gb298 ≠ gb313)); have n9_ := Aside0.mk ((by rw [hg]; exact Nat.ne_of_gt (blk_lt (g := gb298) (o := .cells #[.slice none 0 0] 31 (0, 0)) (by (with_reducible repeat (first | refine blk_drewN ?_ _ | refine blk_drew ?_ | refine blk_alloc ?_ _)); exact BK298.out)) : gb313 ≠ gb298)); have n10_ := Aside0.mk ((by rw [hg]; exact Nat.ne_of_lt (blk_lt (g := gb310) (o := .cells #[u311000] 31 (0, 0)) (by (with_reducible repeat (first | refine blk_drewN ?_ _ | refine blk_drew ?_ | refine blk_alloc ?_ _)); exact BK310.out)) : gb310 ≠ gb313)); have n11_ := Aside0.mk ((by rw [hg]; exact Nat.ne_of_gt (blk_lt (g := gb310) (o := .cells #[u311000] 31 (0, 0)) (by (with_reducible repeat (first | refine blk_drewN ?_ _ | refine blk_drew ?_ | refine blk_alloc ?_ _)); exact BK310.out)) : gb313 ≠ gb310)); clear HO_3; clear HO_311000; clear BK298; clear BK310; clear HB; have HO_3 := n0_; have HO_311000 := n1_; have BK298 := n2_; have BK310 := n3_; have HB := n4_; have BK313 := n5_; have GW313 := n6_; have GE313 := n7_; have NB298_313 := n8_; have NB313_298 := n9_; have NB310_313 := n10_; have NB313_310 := n11_; clear n0_ n1_ n2_ n3_ n4_ n5_ n6_ n7_ n8_ n9_ n10_ n11_; clear hb hbox hg; have hnb45 := NB313_298.out; have hnc45 := NB298_313.out; have hnb46 := NB313_310.out; have hnc46 := NB310_313.out; have hcz47_0 : w44.cell? ⟨gb313, 0, none⟩ = some (.int .i64 0) := (blk_cell BK313.out 0).trans rfl; have hcz47_1 : w44.cell? ⟨gb313, 1, none⟩ = some (.int .i64 0) := (blk_cell BK313.out 1).trans rfl; have hcz47_2 : w44.cell? ⟨gb313, 2, none⟩ = some (.bool false) := (blk_cell BK313.out 2).trans rfl; have hfz47_0 := blk_frozen BK313.out 0; have hfz47_1 := blk_frozen BK313.out 1; have hfz47_2 := blk_frozen BK313.out 2; have hnb48 := NB310_298.out; have hnc48 := NB298_310.out; have hcz49_0 : w44.cell? ⟨gb310, 0, none⟩ = some (u311000) := (blk_cell BK310.out 0).trans rfl; have hfz49_0 := blk_frozen BK310.out 0) | ((with_reducible refine gate_builtin (b := .append) (xs := #[.tmp 69, .tmp 71]) rfl ?_); at_builtin; refine Kd.R_append k83 (w0 := w) w.heap.size rfl (.tmp 69) (.tmp 71) 29 83 (.agg #[(.int .i64 0), (.int .i64 0), (.bool false)]) 24 rfl Tryz.underlying29 info83 rfl (by decide) (by omega) u311000 x311000_2 (⟨(-1), (-1), t312⟩ : S83) [.int .i64 (-1), .int .i64 (-1), .bool t312] (fun k_ => k_ ≠ gb313) (fun _ => False) rfl (by first | (go_simp; done) | (go_simp; rfl)) ?aP (fun _ hk => hk.elim) ?aF ?aO ?aB ?aS ?aL ?_; (case aP => exact k83_mkM _ _ _ (⟨(-1), (-1), t312⟩ : S83)); (case aB => exact (by repeat (first | (with_reducible first | exact HB.out | apply below_alloc | apply pw_below_drewN | apply below_drew1 | refine below_set ?_ GE298.out | refine below_set ?_ GE310.out | refine below_set ?_ GE313.out) | exact HB.out))); (case aF => exact (fun k_ hk => Kd.freshB (g := gb313) (o := .cells #[.int .i64 (-1), .int .i64 (-1), .bool t312] 83 (0, 0)) (by (with_reducible repeat (first | refine blk_drewN ?_ _ | refine blk_drew ?_ | refine blk_alloc ?_ _)); refine blk_put (cs := #[.int .i64 (-1), .int .i64 (-1), .bool false]) ?_ 2 _ rfl; (with_reducible repeat (first | refine blk_drewN ?_ _ | refine blk_drew ?_ | refine blk_alloc ?_ _)); refine blk_put (cs := #[.int .i64 (-1), .int .i64 0, .bool false]) ?_ 1 _ rfl; (with_reducible repeat (first | refine blk_drewN ?_ _ | refine blk_drew ?_ | refine blk_alloc ?_ _)); refine blk_put (cs := #[.int .i64 0, .int .i64 0, .bool false]) ?_ 0 _ rfl; (with_reducible repeat (first | refine blk_drewN ?_ _ | refine blk_drew ?_ | refine blk_alloc ?_ _)); exact BK313.out) k_ hk)); (case aO => exact (by (with_reducible repeat (first | apply Kd.R_alloc | apply Kd.R_drewN | apply Kd.R_drew)); exact Kd.R_mono (R_same_ (Kd.R_far (p := ⟨gb313, 2, none⟩) (Kd.R_far (p := ⟨gb313, 1, none⟩) (Kd.R_far (p := ⟨gb313, 0, none⟩) (Kd.R_mono HO_311000.out (fun k_ hk => (⟨hk, hk.2⟩ : _ ∧ k_ ≠ gb313))) (fun _ hk => hk.2) (.int .i64 (-1))) (fun _ hk => hk.2) (.int .i64 (-1))) (fun _ hk => hk.2) (.bool t312)) rfl) (fun _ hk => hk.1.2))); (case aS => exact (below_size (by repeat (first | (with_reducible first | exact HB.out | apply below_alloc | apply pw_below_drewN | apply below_drew1 | refine below_set ?_ GE298.out | refine below_set ?_ GE310.out | refine below_set ?_ GE313.out) | exact HB.out)))); (case aL => have := LMc42.out; omega); intro v319 w50 ho hb hg hat; rw [← Ny318.out] at ho; have n0_ := Aside0.mk (Kd.V_afterv (ok := (fun k_ => k_ ≠ gb298 ∧ k_ ≠ gb310 ∧ k_ ≠ gb313)) (by (with_reducible repeat (first | apply Kd.V_alloc | apply Kd.V_drewN | apply Kd.V_drew)); exact Kd.V_mono (V_same_ (Kd.V_far (p := ⟨gb313, 2, none⟩) (Kd.V_far (p := ⟨gb313, 1, none⟩) (Kd.V_far (p := ⟨gb313, 0, none⟩) (Kd.V_mono HO_3.out (fun k_ hk => (⟨hk, hk.2⟩ : _ ∧ k_ ≠ gb313))) (fun _ hk => hk.2) (.int .i64 (-1))) (fun _ hk => hk.2) (.int .i64 (-1))) (fun _ hk => hk.2) (.bool t312)) rfl) (fun _ hk => ⟨⟨hk.1.1.2.1, ⟨hk.1.1.2.2, hk.1.2⟩⟩, hk.1.1.1⟩)) hg hat); have n1_ := Aside0.mk (blk_grown (g := gb298) (o := .cells #[.slice none 0 0] 31 (0, 0)) (by (with_reducible repeat (first | refine blk_drewN ?_ _ | refine blk_drew ?_ | refine blk_alloc ?_ _)); refine blk_far ?_ NB298_313.out _; (with_reducible repeat (first | refine blk_drewN ?_ _ | refine blk_drew ?_ | refine blk_alloc ?_ _)); refine blk_far ?_ NB298_313.out _; (with_reducible repeat (first | refine blk_drewN ?_ _ | refine blk_drew ?_ | refine blk_alloc ?_ _)); refine blk_far ?_ NB298_313.out _; (with_reducible repeat (first | refine blk_drewN ?_ _ | refine blk_drew ?_ | refine blk_alloc ?_ _)); exact BK298.out) hg (Kd.R_ne HO_311000.out BK298.out (by decide))); have n2_ := Aside0.mk (blk_grown (g := gb310) (o := .cells #[u311000] 31 (0, 0)) (by (with_reducible repeat (first | refine blk_drewN ?_ _ | refine blk_drew ?_ | refine blk_alloc ?_ _)); refine blk_far ?_ NB310_313.out _; (with_reducible repeat (first | refine blk_drewN ?_ _ | refine blk_drew ?_ | refine blk_alloc ?_ _)); refine blk_far ?_ NB310_313.out _; (with_reducible repeat (first | refine blk_drewN ?_ _ | refine blk_drew ?_ | refine blk_alloc ?_ _)); refine blk_far ?_ NB310_313.out _; (with_reducible repeat (first | refine blk_drewN ?_ _ | refine blk_drew ?_ | refine blk_alloc ?_ _)); exact BK310.out) hg (Kd.R_ne HO_311000.out BK310.out (by decide))); have n3_ := Aside0.mk (blk_grown (g := gb313) (o := .cells #[.int .i64 (-1), .int .i64 (-1), .bool t312] 83 (0, 0)) (by (with_reducible repeat (first | refine blk_drewN ?_ _ | refine blk_drew ?_ | refine blk_alloc ?_ _)); refine blk_put (cs := #[.int .i64 (-1), .int .i64 (-1), .bool false]) ?_ 2 _ rfl; (with_reducible repeat (first | refine blk_drewN ?_ _ | refine blk_drew ?_ | refine blk_alloc ?_ _)); refine blk_put (cs := #[.int .i64 (-1), .int .i64 0, .bool false]) ?_ 1 _ rfl; (with_reducible repeat (first | refine blk_drewN ?_ _ | refine blk_drew ?_ | refine blk_alloc ?_ _)); refine blk_put (cs := #[.int .i64 0, .int .i64 0, .bool false]) ?_ 0 _ rfl; (with_reducible repeat (first | refine blk_drewN ?_ _ | refine blk_drew ?_ | refine blk_alloc ?_ _)); exact BK313.out) hg (Kd.R_away HO_311000.out (fun _ hk => hk.2))); have n4_ := Aside0.mk (hb); have n5_ := Aside0.mk (ho); clear HO_3; clear BK298; clear BK310; clear BK313; clear HB; clear HO_311000; have HO_3 := n0_; have BK298 := n1_; have BK310 := n2_; have BK313 := n3_; have HB := n4_; have HO320 := n5_; clear n0_ n1_ n2_ n3_ n4_ n5_; clear ho hb hg hat; obtain ⟨Ao51, co51, eo51⟩ := Kd.R_slice HO320.out; subst eo51; have hcz52_0 : w50.cell? ⟨gb310, 0, none⟩ = some (u311000) := (blk_cell BK310.out 0).trans rfl; have hfz52_0 := blk_frozen BK310.out 0))
                    go_roundg k2
                    case measure => have := HK1.out; have := HK2.out; omega
                    case rel => exact ⟨(wrap64 (x7_2 + 1)), (y318), (.slice Ao51 y318.length co51), (by first | rfl | (simp; done) | (simp [*]; done)), H', ⟨by have := HK1.out; have := HK2.out; omega⟩, ⟨by (with_reducible repeat (first | apply Kd.V_alloc | apply Kd.V_drewN | apply Kd.V_drew)); exact Kd.V_mono (V_same_ (Kd.V_far (p := ⟨gb310, 0, none⟩) (Kd.V_mono HO_3.out (fun k_ hk => (⟨hk, hk.1.2.1⟩ : _ ∧ k_ ≠ gb310))) (fun _ hk => hk.2) (.slice Ao51 y318.length co51)) rfl) (fun _ hk => ⟨hk.1.2, ⟨hk.1.1.1, hk.1.1.2.1⟩⟩)⟩, ⟨by (with_reducible repeat (first | apply Kd.R_alloc | apply Kd.R_drewN | apply Kd.R_drew)); exact Kd.R_mono (R_same_ (Kd.R_far (p := ⟨gb310, 0, none⟩) (Kd.R_types HO320.out BK310.out (by decide)) (fun _ hk => hk.2) (.slice Ao51 y318.length co51)) rfl) (fun _ hk => trivial)⟩, ⟨by (with_reducible repeat (first | refine blk_drewN ?_ _ | refine blk_drew ?_ | refine blk_alloc ?_ _)); refine blk_far ?_ NB298_310.out _; (with_reducible repeat (first | refine blk_drewN ?_ _ | refine blk_drew ?_ | refine blk_alloc ?_ _)); exact BK298.out⟩, ⟨by (with_reducible repeat (first | refine blk_drewN ?_ _ | refine blk_drew ?_ | refine blk_alloc ?_ _)); refine blk_put (cs := #[u311000]) ?_ 0 _ rfl; (with_reducible repeat (first | refine blk_drewN ?_ _ | refine blk_drew ?_ | refine blk_alloc ?_ _)); exact BK310.out⟩, ⟨by repeat (first | (with_reducible first | exact HB.out | apply below_alloc | apply pw_below_drewN | apply below_drew1 | refine below_set ?_ GE298.out | refine below_set ?_ GE310.out | refine below_set ?_ GE313.out) | exact HB.out)⟩⟩
                  · rw [if_neg c42] at H
                    exact absurd H (by simp)
              · rw [if_neg c21] at H
                exact absurd H (by simp)
            · rw [if_neg c20] at H
              have c20b0 : decide (x7_2 < (x3_1.length : Int)) = false := decide_eq_false c20
              clear c20
              obtain rfl := Option.some.inj H
              obtain ⟨Ao53, co53, eo53⟩ := Kd.V_slice HO_3.out
              subst eo53
              have hnb54 := NB310_298.out
              have hnc54 := NB298_310.out
              have hcz55_0 : wr.cell? ⟨gb310, 0, none⟩ = some (u311000) := (blk_cell BK310.out 0).trans rfl
              have hfz55_0 := blk_frozen BK310.out 0
              obtain ⟨Ao56, co56, eo56⟩ := Kd.R_slice HO_311000.out
              subst eo56
              have hcz57_0 : wr.cell? ⟨gb298, 0, none⟩ = some (.slice none 0 0) := (blk_cell BK298.out 0).trans rfl
              have hfz57_0 := blk_frozen BK298.out 0
              go_wp2
              refine bodyPost_ret (results_cell_row rfl _ _ gb298 31 #[.slice Ao56 x311000_2.length co56] (0, 0) _ rfl (by (with_reducible repeat (first | refine blk_drewN ?_ _ | refine blk_drew ?_ | refine blk_alloc ?_ _)); refine blk_put (cs := #[.slice none 0 0]) ?_ 0 _ rfl; (with_reducible repeat (first | refine blk_drewN ?_ _ | refine blk_drew ?_ | refine blk_alloc ?_ _)); exact BK298.out) Tryz.underlying31 rfl (by kernel_rfl)) rfl ?_
              exact ⟨_, by first | rfl | (simp [errW_none, errW_some] <;> rfl) | (simp [*, errW_none, errW_some] <;> rfl), by (with_reducible repeat (first | apply Kd.R_alloc | apply Kd.R_drewN | apply Kd.R_drew)); exact Kd.R_mono (R_same_ (Kd.R_far (p := ⟨gb298, 0, none⟩) (Kd.R_types HO_311000.out BK298.out (by decide)) (fun _ hk => hk.2) (.slice Ao56 x311000_2.length co56)) rfl) (fun _ hk => trivial), by repeat (first | (with_reducible first | exact HB.out | apply below_alloc | apply pw_below_drewN | apply below_drew1 | refine below_set ?_ GE298.out | refine below_set ?_ GE310.out) | exact HB.out)⟩
def spec_l2Trie.f (k : Nat) (l0_0 : List (S83)) : Option (Bool) := (spec_l1In.f (l0_0.length : Int) 1 481).bind fun t322 => (if t322 = true then ((spec_l2Words.f k l0_0).bind fun t323 => ((spec_l2Set.f k t323).bind fun bt326 => (if bt326.2 = true then ((spec_l2Of.f k bt326.1).bind fun t330 => ((spec_l2Same.f k t330 l0_0).bind fun t333 => (some t333))) else (some false)))) else (some false))
def spec_l2Trie.T4 : Bool × List (List Nat × List Nat) := (true, [([], []), ([0], [0]), ([1], [1]), ([2, 1, 1], [1, 2]), ([1], [1]), ([3, 4, 3, 1], [1, 3, 4]), ([1, 5], [1, 5]), ([6, 5, 0, 1, 2, 3, 4, 5, 6], [6])])
def spec_l2Trie.B4 : List Nat := [0, 1, 3, 7, 3, 31, 63, 127]
theorem spec_l2Trie.tab4 : rtab .any (opsOf Tryz.f57 4) = spec_l2Trie.T4 := by kernel_rfl
theorem spec_l2Trie.bits4 : waitsOk spec_l2Trie.T4.2 spec_l2Trie.B4 = true := by kernel_rfl
set_option maxHeartbeats 8000000 in
set_option maxRecDepth 100000 in
theorem spec_l2Trie.calls (k : Nat) (A0_0 : Option Addr) (c0_0 : Nat) (l0_0 : List (S83)) (r : Bool) (w : World) (hr0_0 : Kd.C k83 w A0_0 l0_0.length l0_0) (hc0_0 : l0_0.length ≤ c0_0) (h : spec_l2Trie.f k l0_0 = some r) :
    Calls Tryz.prog 57 #[.agg #[.slice A0_0 l0_0.length c0_0]] w fun e w' => e = .returned (.bool r) ∧ Below w.heap.size w w' := by
  have hu31 := Tryz.underlying31
  have HR0_0 := Aside0.mk hr0_0
  have HC0_0 := Aside0.mk hc0_0
  clear hr0_0 hc0_0
  have HB := Aside0.mk (Below.refl w.heap.size w)
  have H : ((spec_l1In.f (l0_0.length : Int) 1 481).bind fun t322 => (if t322 = true then ((spec_l2Words.f k l0_0).bind fun t323 => ((spec_l2Set.f k t323).bind fun bt326 => (if bt326.2 = true then ((spec_l2Of.f k bt326.1).bind fun t330 => ((spec_l2Same.f k t330 l0_0).bind fun t333 => (some t333))) else (some false)))) else (some false))) = some r := h
  clear h
  replace H := Option.bind_eq_some_iff.mp H
  obtain ⟨t322, A20, H⟩ := H
  replace H : (if t322 = true then ((spec_l2Words.f k l0_0).bind fun t323 => ((spec_l2Set.f k t323).bind fun bt326 => (if bt326.2 = true then ((spec_l2Of.f k bt326.1).bind fun t330 => ((spec_l2Same.f k t330 l0_0).bind fun t333 => (some t333))) else (some false)))) else (some false)) = some r := H
  have A2 := Aside0.mk A20
  clear A20
  by_cases c3 : t322 = true
  · subst c3
    have H1 : ((spec_l2Words.f k l0_0).bind fun t323 => ((spec_l2Set.f k t323).bind fun bt326 => (if bt326.2 = true then ((spec_l2Of.f k bt326.1).bind fun t330 => ((spec_l2Same.f k t330 l0_0).bind fun t333 => (some t333))) else (some false)))) = some r := by rw [if_pos rfl] at H; exact H
    clear H
    have H := H1
    clear H1
    replace H := Option.bind_eq_some_iff.mp H
    obtain ⟨t323, A40, H⟩ := H
    replace H : ((spec_l2Set.f k t323).bind fun bt326 => (if bt326.2 = true then ((spec_l2Of.f k bt326.1).bind fun t330 => ((spec_l2Same.f k t330 l0_0).bind fun t333 => (some t333))) else (some false))) = some r := H
    have A4 := Aside0.mk A40
    clear A40
    replace H := Option.bind_eq_some_iff.mp H
    obtain ⟨⟨t326, t329⟩, A50, H⟩ := H
    replace H : (if t329 = true then ((spec_l2Of.f k t326).bind fun t330 => ((spec_l2Same.f k t330 l0_0).bind fun t333 => (some t333))) else (some false)) = some r := H
    have A5 := Aside0.mk A50
    clear A50
    by_cases c6 : t329 = true
    · subst c6
      have H1 : ((spec_l2Of.f k t326).bind fun t330 => ((spec_l2Same.f k t330 l0_0).bind fun t333 => (some t333))) = some r := by rw [if_pos rfl] at H; exact H
      clear H
      have H := H1
      clear H1
      replace H := Option.bind_eq_some_iff.mp H
      obtain ⟨t330, A70, H⟩ := H
      replace H : ((spec_l2Same.f k t330 l0_0).bind fun t333 => (some t333)) = some r := H
      have A7 := Aside0.mk A70
      clear A70
      replace H := Option.bind_eq_some_iff.mp H
      obtain ⟨t333, A80, H⟩ := H
      replace H : (some t333) = some r := H
      have A8 := Aside0.mk A80
      clear A80
      obtain rfl := Option.some.inj H
      go_enter Tryz.func57, Tryz.ntmps57
      try go_wp2_with (first | ((with_reducible refine gate_dst (N := 1) rfl ?_); refine box_event ?hg (N := 1) ?hd (cs := #[.slice A0_0 l0_0.length c0_0]) (t := 31) ?hr ?_; (case hd => rfl); (case hg => rfl); (case hr => first | (go_simp; done) | (go_simp; rfl)); intro gb321 hg w9 hbox hb; have n0_ := Aside0.mk (below_step (by repeat (first | (with_reducible first | exact HB.out | apply below_alloc | apply pw_below_drewN | apply below_drew1) | exact HB.out)) hb); have n1_ := Aside0.mk (hbox); have n2_ := Aside0.mk ((by rw [hg]; exact (below_size (by repeat (first | (with_reducible first | exact HB.out | apply below_alloc | apply pw_below_drewN | apply below_drew1) | exact HB.out))) : w.heap.size ≤ gb321)); have n3_ := Aside0.mk ((by rw [hg]; exact (below_size (by repeat (first | (with_reducible first | exact HB.out | apply below_alloc | apply pw_below_drewN | apply below_drew1) | exact HB.out))) : w.heap.size ≤ gb321)); clear HB; have HB := n0_; have BK321 := n1_; have GW321 := n2_; have GE321 := n3_; clear n0_ n1_ n2_ n3_; clear hb hbox hg; have hcz10_0 : w9.cell? ⟨gb321, 0, none⟩ = some (.slice A0_0 l0_0.length c0_0) := (blk_cell BK321.out 0).trans rfl; have hfz10_0 := blk_frozen BK321.out 0) | ((with_reducible refine gate_callee (f := 64) rfl ?_); refine goesL_ (some 8) rfl rfl Tryz.func64 (by kernel_rfl) rfl #[.int .i64 (l0_0.length : Int), .int .i64 1, .int .i64 481] rfl (by (try simp only [List.map_toArray, List.map_cons, List.map_nil]); first | done | rfl | (simp only [List.length_drop, List.length_take]; rfl)) ?_; (with_reducible refine (spec_l1In.calls (l0_0.length : Int) 1 481 true _ A2.out).mono ?_); rintro e w' ⟨rfl, ⟨nd, rfl⟩⟩; refine ⟨_, rfl, ?_⟩) | ((with_reducible refine gate_callee (f := 45) rfl ?_); refine goesL_ (some 12) rfl rfl Tryz.func45 (by kernel_rfl) rfl #[.agg #[.slice A0_0 l0_0.length c0_0]] rfl (by (try simp only [List.map_toArray, List.map_cons, List.map_nil]); first | done | rfl | (simp only [List.length_drop, List.length_take]; rfl)) ?_; (with_reducible refine (spec_l2Words.calls k _ _ l0_0 t323 _ ?side1 ?side2 A4.out).mono ?_); (case side1 => repeat (first | exact (Kd.C_below HR0_0.out (by repeat (first | (with_reducible first | exact HB.out | apply below_alloc | apply pw_below_drewN | apply below_drew1 | refine below_set ?_ GE321.out) | exact HB.out))) | (with_reducible refine Kd.C_alloc ?_ _) | (with_reducible refine Kd.C_drewN ?_ _) | (with_reducible refine Kd.C_drew ?_))); (case side2 => exact HC0_0.out); rintro e w11 ⟨v324, rfl, ho0, hb⟩; refine ⟨_, rfl, ?_⟩; have n0_ := Aside0.mk (Kd.R_lower ho0 (below_size (by repeat (first | (with_reducible first | exact HB.out | apply below_alloc | apply pw_below_drewN | apply below_drew1 | refine below_set ?_ GE321.out) | exact HB.out)))); have n1_ := Aside0.mk (blk_below (g := gb321) (o := .cells #[.slice A0_0 l0_0.length c0_0] 31 (0, 0)) (by (with_reducible repeat (first | refine blk_drewN ?_ _ | refine blk_drew ?_ | refine blk_alloc ?_ _)); exact BK321.out) hb); have n2_ := Aside0.mk (below_step (by repeat (first | (with_reducible first | exact HB.out | apply below_alloc | apply pw_below_drewN | apply below_drew1 | refine below_set ?_ GE321.out) | exact HB.out)) hb); clear BK321; clear HB; have HO325 := n0_; have BK321 := n1_; have HB := n2_; clear n0_ n1_ n2_; (try clear hb); (try clear hb2); (try clear hk); (try clear hi); (try clear ho0); obtain ⟨Ao12, co12, eo12⟩ := Kd.R_slice HO325.out; subst eo12) | ((with_reducible refine gate_callee (f := 78) rfl ?_); refine goesL_ (some 13) rfl rfl Tryz.func78 (by kernel_rfl) rfl #[.slice Ao12 t323.length co12] rfl (by (try simp only [List.map_toArray, List.map_cons, List.map_nil]); first | done | rfl | (simp only [List.length_drop, List.length_take]; rfl)) ?_; (with_reducible refine (spec_l2Set.calls k _ _ t323 t326 true _ ?side1 ?side2 A5.out).mono ?_); (case side1 => repeat (first | exact (Kd.R_reads' HO325.out).2.2 | (with_reducible refine Kd.C_alloc ?_ _) | (with_reducible refine Kd.C_drewN ?_ _) | (with_reducible refine Kd.C_drew ?_))); (case side2 => exact (Kd.R_reads' HO325.out).2.1); rintro e w13 ⟨v327, rfl, ho0, hb⟩; refine ⟨_, rfl, ?_⟩; have n0_ := Aside0.mk (Kd.R_below (by (with_reducible repeat (first | apply Kd.R_alloc | apply Kd.R_drewN | apply Kd.R_drew)); exact HO325.out) hb); have n1_ := Aside0.mk (Kd.V_lower (Kd.V_mono (ok' := fun k_ => some k_ ≠ (.slice Ao12 t323.length co12 : Value).ownBlock ∧ k_ ≠ gb321) ho0 (fun k_ hk_ => ⟨(Kd.fresh' (Kd.R_lt (by (with_reducible repeat (first | apply Kd.R_alloc | apply Kd.R_drewN | apply Kd.R_drew)); exact HO325.out)) k_ hk_), (Kd.freshB (g := gb321) (o := .cells #[.slice A0_0 l0_0.length c0_0] 31 (0, 0)) (by (with_reducible repeat (first | refine blk_drewN ?_ _ | refine blk_drew ?_ | refine blk_alloc ?_ _)); exact BK321.out) k_ hk_)⟩)) (below_size (by repeat (first | (with_reducible first | exact HB.out | apply below_alloc | apply pw_below_drewN | apply below_drew1 | refine below_set ?_ GE321.out) | exact HB.out)))); have n2_ := Aside0.mk (blk_below (g := gb321) (o := .cells #[.slice A0_0 l0_0.length c0_0] 31 (0, 0)) (by (with_reducible repeat (first | refine blk_drewN ?_ _ | refine blk_drew ?_ | refine blk_alloc ?_ _)); exact BK321.out) hb); have n3_ := Aside0.mk (below_step (by repeat (first | (with_reducible first | exact HB.out | apply below_alloc | apply pw_below_drewN | apply below_drew1 | refine below_set ?_ GE321.out) | exact HB.out)) hb); clear HO325; clear BK321; clear HB; have HO325 := n0_; have HO328 := n1_; have BK321 := n2_; have HB := n3_; clear n0_ n1_ n2_ n3_; (try clear hb); (try clear hb2); (try clear hk); (try clear hi); (try clear ho0)))
      have n0_ := Aside0.mk (Kd.R_drew HO325.out)
      have n1_ := Aside0.mk (Kd.V_drew HO328.out)
      have n2_ := Aside0.mk (blk_drew BK321.out)
      have n3_ := Aside0.mk (below_drew1 HB.out)
      clear HO325
      clear HO328
      clear BK321
      clear HB
      have HO325 := n0_
      have HO328 := n1_
      have BK321 := n2_
      have HB := n3_
      clear n0_ n1_ n2_ n3_
      obtain ⟨Ao15, co15, eo15⟩ := Kd.V_slice HO328.out
      (first | subst eo15 | (injection eo15 with f1_ f2_ f3_; have f4_ := f1_.symm; have f5_ := f3_.symm; clear f1_ f2_ f3_; subst f4_; subst f5_))
      refine start_ (n := 8) (S := fun w' => w'.cell? ⟨gb321, 0, none⟩ = some (.slice A0_0 l0_0.length c0_0)) (ds := []) #[false, false, false, false, false, false, false, false] (by kernel_rfl) rfl rfl ((blk_cell BK321.out 0).trans rfl) (fun hHeld => ?_); refine with_tabW spec_l2Trie.tab4 spec_l2Trie.bits4 (fun HT_ HW_ => ?_)
      generalize w13.drew = w14 at HO325 HO328 BK321 HB hHeld ⊢
      refine pure_ (i := 0) (N := some 16) (v := ?_) (a' := ?_) #[true, false, false, false, false, false, false, false] rfl rfl (any_of HT_.out (by kernel_rfl)) (fun _ _ _ h => h) (Or.inl ⟨by rfl, ?_⟩) ?_ ?_
      rotate_left
      · intro w'
        go_simp
        with_reducible rfl
      rotate_left
      · simp only [Act.put, List.setIfInBounds_toArray, List.set_cons_zero, List.set_cons_succ, i64_w, i32_w]
        rfl
      refine pure_ (i := 1) (N := some 17) (v := ?_) (a' := ?_) #[true, true, false, false, false, false, false, false] rfl rfl (any_of HT_.out (by kernel_rfl)) (fun _ _ _ h => h) (Or.inl ⟨by rfl, ?_⟩) ?_ ?_
      rotate_left
      · intro w'
        go_simp
        with_reducible rfl
      rotate_left
      · simp only [Act.put, List.setIfInBounds_toArray, List.set_cons_zero, List.set_cons_succ, i64_w, i32_w]
        rfl
      refine pure_ (i := 2) (N := some 18) (v := ?_) (a' := ?_) #[true, true, true, false, false, false, false, false] rfl rfl (any_of HT_.out (by kernel_rfl)) (fun _ _ _ h => h) (Or.inl ⟨by rfl, ?_⟩) ?_ ?_
      rotate_left
      · intro w'
        go_simp
        with_reducible rfl
      rotate_left
      · simp only [Act.put, List.setIfInBounds_toArray, List.set_cons_zero, List.set_cons_succ, i64_w, i32_w]
        rfl
      refine take_ (i := 4) (N := some 20) (v := ?_) (a' := ?_) #[true, true, true, false, true, false, false, false] rfl rfl (take_ofW HT_.out HW_.out (by kernel_rfl)) (fun _ _ _ h => h) (Or.inl ⟨by rfl, ?_⟩) hHeld ?_ ?_
      rotate_left
      · intro w' s0
        go_simp
        with_reducible rfl
      rotate_left
      · simp only [Act.put, List.setIfInBounds_toArray, List.set_cons_zero, List.set_cons_succ, i64_w, i32_w]
        rfl
      refine one_ (i := 3) (N := some 19) #[true, true, true, true, true, false, false, false] rfl rfl (one_of HT_.out (by kernel_rfl)) (by decide) (fun K hK => ?_)
      refine goes_ Tryz.func80 (by kernel_rfl) rfl #[.slice Ao15 t326.length co15] (by rfl) rfl rfl (by (try simp only [List.map_toArray, List.map_cons, List.map_nil]); first | done | rfl | (simp only [List.length_drop, List.length_take]; rfl)) ?_
      with_reducible refine (spec_l2Of.calls k _ _ t326 t330 _ ?side1 ?side2 A7.out).mono ?_
      (case side1 => repeat (first | exact (Kd.V_reads' HO328.out).2.2 | (with_reducible refine Kd.C_alloc ?_ _) | (with_reducible refine Kd.C_drewN ?_ _) | (with_reducible refine Kd.C_drew ?_)))
      (case side2 => exact (Kd.V_reads' HO328.out).2.1)
      rintro e w16 ⟨v331, rfl, ho0, hb⟩
      refine ⟨_, rfl, ?_⟩
      have n0_ := Aside0.mk (Kd.R_below (by (with_reducible repeat (first | apply Kd.R_alloc | apply Kd.R_drewN | apply Kd.R_drew)); exact HO325.out) hb)
      have n1_ := Aside0.mk (Kd.V_elder' (by (with_reducible repeat (first | apply Kd.V_alloc | apply Kd.V_drewN | apply Kd.V_drew)); exact HO328.out) (Kd.R_base ho0) hb)
      have n2_ := Aside0.mk (Kd.R_lower ho0 (below_size (by repeat (first | (with_reducible first | exact HB.out | apply below_alloc | apply pw_below_drewN | apply below_drew1 | refine below_set ?_ GE321.out) | exact HB.out))))
      have n3_ := Aside0.mk (blk_below (g := gb321) (o := .cells #[.slice A0_0 l0_0.length c0_0] 31 (0, 0)) (by (with_reducible repeat (first | refine blk_drewN ?_ _ | refine blk_drew ?_ | refine blk_alloc ?_ _)); exact BK321.out) hb)
      have n4_ := Aside0.mk (below_step (by repeat (first | (with_reducible first | exact HB.out | apply below_alloc | apply pw_below_drewN | apply below_drew1 | refine below_set ?_ GE321.out) | exact HB.out)) hb)
      clear HO325
      clear HO328
      clear BK321
      clear HB
      have HO325 := n0_
      have HO328 := n1_
      have HO332 := n2_
      have BK321 := n3_
      have HB := n4_
      clear n0_ n1_ n2_ n3_ n4_
      (try clear hb)
      (try clear hb2)
      (try clear hk)
      (try clear hi)
      (try clear ho0)
      obtain ⟨Ao17, co17, eo17⟩ := Kd.R_slice HO332.out
      (first | subst eo17 | (injection eo17 with f1_ f2_ f3_; have f4_ := f1_.symm; have f5_ := f3_.symm; clear f1_ f2_ f3_; subst f4_; subst f5_))
      refine hK.out _ _ ((blk_cell BK321.out 0).trans rfl) (fun hHeld => ?_)
      clear hK K
      refine norm_ (a' := ?_) ?_ ?_
      rotate_left
      · show Act.put _ (some 19) _ = _
        simp only [Act.put, List.setIfInBounds_toArray, List.set_cons_zero, List.set_cons_succ, i64_w, i32_w]
        rfl
      refine one_ (i := 5) (N := some 21) #[true, true, true, true, true, true, false, false] rfl rfl (one_of HT_.out (by kernel_rfl)) (by decide) (fun K hK => ?_)
      refine goes_ Tryz.func79 (by kernel_rfl) rfl #[.agg #[.slice Ao17 t330.length co17], .agg #[.slice A0_0 l0_0.length c0_0]] (by rfl) rfl rfl (by (try simp only [List.map_toArray, List.map_cons, List.map_nil]); first | done | rfl | (simp only [List.length_drop, List.length_take]; rfl)) ?_
      with_reducible refine (spec_l2Same.calls k _ _ t330 _ _ l0_0 t333 _ ?side1 ?side2 ?side3 ?side4 A8.out).mono ?_
      (case side1 => repeat (first | exact (Kd.R_reads' HO332.out).2.2 | (with_reducible refine Kd.C_alloc ?_ _) | (with_reducible refine Kd.C_drewN ?_ _) | (with_reducible refine Kd.C_drew ?_)))
      (case side2 => exact (Kd.R_reads' HO332.out).2.1)
      (case side3 => repeat (first | exact (Kd.C_below HR0_0.out HB.out) | (with_reducible refine Kd.C_alloc ?_ _) | (with_reducible refine Kd.C_drewN ?_ _) | (with_reducible refine Kd.C_drew ?_)))
      (case side4 => exact HC0_0.out)
      rintro e w18 ⟨rfl, hb⟩
      refine ⟨_, rfl, ?_⟩
      have n0_ := Aside0.mk (Kd.R_below (by (with_reducible repeat (first | apply Kd.R_alloc | apply Kd.R_drewN | apply Kd.R_drew)); exact HO325.out) hb)
      have n1_ := Aside0.mk (Kd.V_below (by (with_reducible repeat (first | apply Kd.V_alloc | apply Kd.V_drewN | apply Kd.V_drew)); exact HO328.out) hb)
      have n2_ := Aside0.mk (Kd.R_below (by (with_reducible repeat (first | apply Kd.R_alloc | apply Kd.R_drewN | apply Kd.R_drew)); exact HO332.out) hb)
      have n3_ := Aside0.mk (blk_below (g := gb321) (o := .cells #[.slice A0_0 l0_0.length c0_0] 31 (0, 0)) (by (with_reducible repeat (first | refine blk_drewN ?_ _ | refine blk_drew ?_ | refine blk_alloc ?_ _)); exact BK321.out) hb)
      have n4_ := Aside0.mk (below_step (by repeat (first | (with_reducible first | exact HB.out | apply below_alloc | apply pw_below_drewN | apply below_drew1 | refine below_set ?_ GE321.out) | exact HB.out)) hb)
      clear HO325
      clear HO328
      clear HO332
      clear BK321
      clear HB
      have HO325 := n0_
      have HO328 := n1_
      have HO332 := n2_
      have BK321 := n3_
      have HB := n4_
      clear n0_ n1_ n2_ n3_ n4_
      (try clear hb)
      (try clear hb2)
      (try clear hk)
      (try clear hi)
      refine hK.out _ _ ((blk_cell BK321.out 0).trans rfl) (fun hHeld => ?_)
      clear hK K
      refine norm_ (a' := ?_) ?_ ?_
      rotate_left
      · show Act.put _ (some 21) _ = _
        simp only [Act.put, List.setIfInBounds_toArray, List.set_cons_zero, List.set_cons_succ, i64_w, i32_w]
        rfl
      refine pure_ (i := 6) (N := some 22) (v := ?_) (a' := ?_) #[true, true, true, true, true, true, true, false] rfl rfl (any_of HT_.out (by kernel_rfl)) (fun _ _ _ h => h) (Or.inl ⟨by rfl, ?_⟩) ?_ ?_
      rotate_left
      · intro w'
        go_simp
        with_reducible rfl
      rotate_left
      · simp only [Act.put, List.setIfInBounds_toArray, List.set_cons_zero, List.set_cons_succ, i64_w, i32_w]
        rfl
      refine pure_ (i := 7) (N := some 2) (v := ?_) (a' := ?_) #[true, true, true, true, true, true, true, true] rfl rfl (any_of HT_.out (by kernel_rfl)) (fun _ _ _ h => h) (Or.inl ⟨by rfl, ?_⟩) ?_ ?_
      rotate_left
      · intro w'
        go_simp
        with_reducible rfl
      rotate_left
      · simp only [Act.put, List.setIfInBounds_toArray, List.set_cons_zero, List.set_cons_succ, i64_w, i32_w]
        rfl
      refine done_ (done_of HT_.out (by kernel_rfl)) ?_
      try go_wp2
      go_ret
      exact ⟨by first | rfl | (simp [errW_none, errW_some] <;> rfl) | (simp [*, errW_none, errW_some] <;> rfl), by repeat (first | (with_reducible first | exact HB.out | apply below_alloc | apply pw_below_drewN | apply below_drew1 | refine below_set ?_ GE321.out) | exact HB.out)⟩
    · replace c6 := Bool.eq_false_iff.mpr c6
      subst c6
      have H1 : (some false) = some r := by rw [if_neg (show ¬ (false = true) by decide)] at H; exact H
      clear H
      have H := H1
      clear H1
      obtain rfl := Option.some.inj H
      go_enter Tryz.func57, Tryz.ntmps57
      try go_wp2_with (first | ((with_reducible refine gate_dst (N := 1) rfl ?_); refine box_event ?hg (N := 1) ?hd (cs := #[.slice A0_0 l0_0.length c0_0]) (t := 31) ?hr ?_; (case hd => rfl); (case hg => rfl); (case hr => first | (go_simp; done) | (go_simp; rfl)); intro gb321 hg w19 hbox hb; have n0_ := Aside0.mk (below_step (by repeat (first | (with_reducible first | exact HB.out | apply below_alloc | apply pw_below_drewN | apply below_drew1) | exact HB.out)) hb); have n1_ := Aside0.mk (hbox); have n2_ := Aside0.mk ((by rw [hg]; exact (below_size (by repeat (first | (with_reducible first | exact HB.out | apply below_alloc | apply pw_below_drewN | apply below_drew1) | exact HB.out))) : w.heap.size ≤ gb321)); have n3_ := Aside0.mk ((by rw [hg]; exact (below_size (by repeat (first | (with_reducible first | exact HB.out | apply below_alloc | apply pw_below_drewN | apply below_drew1) | exact HB.out))) : w.heap.size ≤ gb321)); clear HB; have HB := n0_; have BK321 := n1_; have GW321 := n2_; have GE321 := n3_; clear n0_ n1_ n2_ n3_; clear hb hbox hg; have hcz20_0 : w19.cell? ⟨gb321, 0, none⟩ = some (.slice A0_0 l0_0.length c0_0) := (blk_cell BK321.out 0).trans rfl; have hfz20_0 := blk_frozen BK321.out 0) | ((with_reducible refine gate_callee (f := 64) rfl ?_); refine goesL_ (some 8) rfl rfl Tryz.func64 (by kernel_rfl) rfl #[.int .i64 (l0_0.length : Int), .int .i64 1, .int .i64 481] rfl (by (try simp only [List.map_toArray, List.map_cons, List.map_nil]); first | done | rfl | (simp only [List.length_drop, List.length_take]; rfl)) ?_; (with_reducible refine (spec_l1In.calls (l0_0.length : Int) 1 481 true _ A2.out).mono ?_); rintro e w' ⟨rfl, ⟨nd, rfl⟩⟩; refine ⟨_, rfl, ?_⟩) | ((with_reducible refine gate_callee (f := 45) rfl ?_); refine goesL_ (some 12) rfl rfl Tryz.func45 (by kernel_rfl) rfl #[.agg #[.slice A0_0 l0_0.length c0_0]] rfl (by (try simp only [List.map_toArray, List.map_cons, List.map_nil]); first | done | rfl | (simp only [List.length_drop, List.length_take]; rfl)) ?_; (with_reducible refine (spec_l2Words.calls k _ _ l0_0 t323 _ ?side1 ?side2 A4.out).mono ?_); (case side1 => repeat (first | exact (Kd.C_below HR0_0.out (by repeat (first | (with_reducible first | exact HB.out | apply below_alloc | apply pw_below_drewN | apply below_drew1 | refine below_set ?_ GE321.out) | exact HB.out))) | (with_reducible refine Kd.C_alloc ?_ _) | (with_reducible refine Kd.C_drewN ?_ _) | (with_reducible refine Kd.C_drew ?_))); (case side2 => exact HC0_0.out); rintro e w21 ⟨v324, rfl, ho0, hb⟩; refine ⟨_, rfl, ?_⟩; have n0_ := Aside0.mk (Kd.R_lower ho0 (below_size (by repeat (first | (with_reducible first | exact HB.out | apply below_alloc | apply pw_below_drewN | apply below_drew1 | refine below_set ?_ GE321.out) | exact HB.out)))); have n1_ := Aside0.mk (blk_below (g := gb321) (o := .cells #[.slice A0_0 l0_0.length c0_0] 31 (0, 0)) (by (with_reducible repeat (first | refine blk_drewN ?_ _ | refine blk_drew ?_ | refine blk_alloc ?_ _)); exact BK321.out) hb); have n2_ := Aside0.mk (below_step (by repeat (first | (with_reducible first | exact HB.out | apply below_alloc | apply pw_below_drewN | apply below_drew1 | refine below_set ?_ GE321.out) | exact HB.out)) hb); clear BK321; clear HB; have HO325 := n0_; have BK321 := n1_; have HB := n2_; clear n0_ n1_ n2_; (try clear hb); (try clear hb2); (try clear hk); (try clear hi); (try clear ho0); obtain ⟨Ao22, co22, eo22⟩ := Kd.R_slice HO325.out; subst eo22) | ((with_reducible refine gate_callee (f := 78) rfl ?_); refine goesL_ (some 13) rfl rfl Tryz.func78 (by kernel_rfl) rfl #[.slice Ao22 t323.length co22] rfl (by (try simp only [List.map_toArray, List.map_cons, List.map_nil]); first | done | rfl | (simp only [List.length_drop, List.length_take]; rfl)) ?_; (with_reducible refine (spec_l2Set.calls k _ _ t323 t326 false _ ?side1 ?side2 A5.out).mono ?_); (case side1 => repeat (first | exact (Kd.R_reads' HO325.out).2.2 | (with_reducible refine Kd.C_alloc ?_ _) | (with_reducible refine Kd.C_drewN ?_ _) | (with_reducible refine Kd.C_drew ?_))); (case side2 => exact (Kd.R_reads' HO325.out).2.1); rintro e w23 ⟨v327, rfl, ho0, hb⟩; refine ⟨_, rfl, ?_⟩; have n0_ := Aside0.mk (Kd.R_below (by (with_reducible repeat (first | apply Kd.R_alloc | apply Kd.R_drewN | apply Kd.R_drew)); exact HO325.out) hb); have n1_ := Aside0.mk (Kd.V_lower (Kd.V_mono (ok' := fun k_ => some k_ ≠ (.slice Ao22 t323.length co22 : Value).ownBlock ∧ k_ ≠ gb321) ho0 (fun k_ hk_ => ⟨(Kd.fresh' (Kd.R_lt (by (with_reducible repeat (first | apply Kd.R_alloc | apply Kd.R_drewN | apply Kd.R_drew)); exact HO325.out)) k_ hk_), (Kd.freshB (g := gb321) (o := .cells #[.slice A0_0 l0_0.length c0_0] 31 (0, 0)) (by (with_reducible repeat (first | refine blk_drewN ?_ _ | refine blk_drew ?_ | refine blk_alloc ?_ _)); exact BK321.out) k_ hk_)⟩)) (below_size (by repeat (first | (with_reducible first | exact HB.out | apply below_alloc | apply pw_below_drewN | apply below_drew1 | refine below_set ?_ GE321.out) | exact HB.out)))); have n2_ := Aside0.mk (blk_below (g := gb321) (o := .cells #[.slice A0_0 l0_0.length c0_0] 31 (0, 0)) (by (with_reducible repeat (first | refine blk_drewN ?_ _ | refine blk_drew ?_ | refine blk_alloc ?_ _)); exact BK321.out) hb); have n3_ := Aside0.mk (below_step (by repeat (first | (with_reducible first | exact HB.out | apply below_alloc | apply pw_below_drewN | apply below_drew1 | refine below_set ?_ GE321.out) | exact HB.out)) hb); clear HO325; clear BK321; clear HB; have HO325 := n0_; have HO328 := n1_; have BK321 := n2_; have HB := n3_; clear n0_ n1_ n2_ n3_; (try clear hb); (try clear hb2); (try clear hk); (try clear hi); (try clear ho0)))
      have n0_ := Aside0.mk (Kd.R_drew HO325.out)
      have n1_ := Aside0.mk (Kd.V_drew HO328.out)
      have n2_ := Aside0.mk (blk_drew BK321.out)
      have n3_ := Aside0.mk (below_drew1 HB.out)
      clear HO325
      clear HO328
      clear BK321
      clear HB
      have HO325 := n0_
      have HO328 := n1_
      have BK321 := n2_
      have HB := n3_
      clear n0_ n1_ n2_ n3_
      refine start_ (n := 8) (S := fun w' => True) (ds := []) #[false, false, false, false, false, false, false, false] (by kernel_rfl) rfl rfl trivial (fun hHeld => ?_); refine with_tabW spec_l2Trie.tab4 spec_l2Trie.bits4 (fun HT_ HW_ => ?_)
      generalize w23.drew = w24 at HO325 HO328 BK321 HB hHeld ⊢
      refine pure_ (i := 0) (N := some 16) (v := ?_) (a' := ?_) #[true, false, false, false, false, false, false, false] rfl rfl (any_of HT_.out (by kernel_rfl)) (fun _ _ _ h => h) (Or.inl ⟨by rfl, ?_⟩) ?_ ?_
      rotate_left
      · intro w'
        go_simp
        with_reducible rfl
      rotate_left
      · simp only [Act.put, List.setIfInBounds_toArray, List.set_cons_zero, List.set_cons_succ, i64_w, i32_w]
        rfl
      refine pure_ (i := 1) (N := some 17) (v := ?_) (a' := ?_) #[true, true, false, false, false, false, false, false] rfl rfl (any_of HT_.out (by kernel_rfl)) (fun _ _ _ h => h) (Or.inl ⟨by rfl, ?_⟩) ?_ ?_
      rotate_left
      · intro w'
        go_simp
        with_reducible rfl
      rotate_left
      · simp only [Act.put, List.setIfInBounds_toArray, List.set_cons_zero, List.set_cons_succ, i64_w, i32_w]
        rfl
      refine pure_ (i := 2) (N := some 18) (v := undef) (a' := ?_) #[true, true, true, false, false, false, false, false] rfl rfl (any_of HT_.out (by kernel_rfl)) (fun _ _ _ h => h) (Or.inr ⟨by rfl, rfl⟩) ?_ ?_
      rotate_left
      · simp only [Act.put, List.setIfInBounds_toArray, List.set_cons_zero, List.set_cons_succ, i64_w, i32_w]
        rfl
      refine pure_ (i := 3) (N := some 19) (v := undef) (a' := ?_) #[true, true, true, true, false, false, false, false] rfl rfl (any_of HT_.out (by kernel_rfl)) (fun _ _ _ h => h) (Or.inr ⟨by rfl, rfl⟩) ?_ ?_
      rotate_left
      · simp only [Act.put, List.setIfInBounds_toArray, List.set_cons_zero, List.set_cons_succ, i64_w, i32_w]
        rfl
      refine pure_ (i := 4) (N := some 20) (v := undef) (a' := ?_) #[true, true, true, true, true, false, false, false] rfl rfl (any_of HT_.out (by kernel_rfl)) (fun _ _ _ h => h) (Or.inr ⟨by rfl, rfl⟩) ?_ ?_
      rotate_left
      · simp only [Act.put, List.setIfInBounds_toArray, List.set_cons_zero, List.set_cons_succ, i64_w, i32_w]
        rfl
      refine pure_ (i := 5) (N := some 21) (v := undef) (a' := ?_) #[true, true, true, true, true, true, false, false] rfl rfl (any_of HT_.out (by kernel_rfl)) (fun _ _ _ h => h) (Or.inr ⟨by rfl, rfl⟩) ?_ ?_
      rotate_left
      · simp only [Act.put, List.setIfInBounds_toArray, List.set_cons_zero, List.set_cons_succ, i64_w, i32_w]
        rfl
      refine pure_ (i := 6) (N := some 22) (v := ?_) (a' := ?_) #[true, true, true, true, true, true, true, false] rfl rfl (any_of HT_.out (by kernel_rfl)) (fun _ _ _ h => h) (Or.inl ⟨by rfl, ?_⟩) ?_ ?_
      rotate_left
      · intro w'
        go_simp
        with_reducible rfl
      rotate_left
      · simp only [Act.put, List.setIfInBounds_toArray, List.set_cons_zero, List.set_cons_succ, i64_w, i32_w]
        rfl
      refine pure_ (i := 7) (N := some 2) (v := ?_) (a' := ?_) #[true, true, true, true, true, true, true, true] rfl rfl (any_of HT_.out (by kernel_rfl)) (fun _ _ _ h => h) (Or.inl ⟨by rfl, ?_⟩) ?_ ?_
      rotate_left
      · intro w'
        go_simp
        with_reducible rfl
      rotate_left
      · simp only [Act.put, List.setIfInBounds_toArray, List.set_cons_zero, List.set_cons_succ, i64_w, i32_w]
        rfl
      refine done_ (done_of HT_.out (by kernel_rfl)) ?_
      try go_wp2
      go_ret
      exact ⟨by first | rfl | (simp [errW_none, errW_some] <;> rfl) | (simp [*, errW_none, errW_some] <;> rfl), by repeat (first | (with_reducible first | exact HB.out | apply below_alloc | apply pw_below_drewN | apply below_drew1 | refine below_set ?_ GE321.out) | exact HB.out)⟩
  · replace c3 := Bool.eq_false_iff.mpr c3
    subst c3
    have H1 : (some false) = some r := by rw [if_neg (show ¬ (false = true) by decide)] at H; exact H
    clear H
    have H := H1
    clear H1
    obtain rfl := Option.some.inj H
    go_enter Tryz.func57, Tryz.ntmps57
    go_wp2_with (first | ((with_reducible refine gate_dst (N := 1) rfl ?_); refine box_event ?hg (N := 1) ?hd (cs := #[.slice A0_0 l0_0.length c0_0]) (t := 31) ?hr ?_; (case hd => rfl); (case hg => rfl); (case hr => first | (go_simp; done) | (go_simp; rfl)); intro gb321 hg w25 hbox hb; have n0_ := Aside0.mk (below_step (by repeat (first | (with_reducible first | exact HB.out | apply below_alloc | apply pw_below_drewN | apply below_drew1) | exact HB.out)) hb); have n1_ := Aside0.mk (hbox); have n2_ := Aside0.mk ((by rw [hg]; exact (below_size (by repeat (first | (with_reducible first | exact HB.out | apply below_alloc | apply pw_below_drewN | apply below_drew1) | exact HB.out))) : w.heap.size ≤ gb321)); have n3_ := Aside0.mk ((by rw [hg]; exact (below_size (by repeat (first | (with_reducible first | exact HB.out | apply below_alloc | apply pw_below_drewN | apply below_drew1) | exact HB.out))) : w.heap.size ≤ gb321)); clear HB; have HB := n0_; have BK321 := n1_; have GW321 := n2_; have GE321 := n3_; clear n0_ n1_ n2_ n3_; clear hb hbox hg; have hcz26_0 : w25.cell? ⟨gb321, 0, none⟩ = some (.slice A0_0 l0_0.length c0_0) := (blk_cell BK321.out 0).trans rfl; have hfz26_0 := blk_frozen BK321.out 0) | ((with_reducible refine gate_callee (f := 64) rfl ?_); refine goesL_ (some 8) rfl rfl Tryz.func64 (by kernel_rfl) rfl #[.int .i64 (l0_0.length : Int), .int .i64 1, .int .i64 481] rfl (by (try simp only [List.map_toArray, List.map_cons, List.map_nil]); first | done | rfl | (simp only [List.length_drop, List.length_take]; rfl)) ?_; (with_reducible refine (spec_l1In.calls (l0_0.length : Int) 1 481 false _ A2.out).mono ?_); rintro e w' ⟨rfl, ⟨nd, rfl⟩⟩; refine ⟨_, rfl, ?_⟩))
    go_ret
    exact ⟨by first | rfl | (simp [errW_none, errW_some] <;> rfl) | (simp [*, errW_none, errW_some] <;> rfl), by repeat (first | (with_reducible first | exact HB.out | apply below_alloc | apply pw_below_drewN | apply below_drew1 | refine below_set ?_ GE321.out) | exact HB.out)⟩
end Go.Proofs.YtcgcicngfemnlaaGreatDoor.Q
namespace Go.Proofs.YtcgcicngfemnlaaGreatDoor.Q
open Go.RowKit Go.Proofs.YtcgcicngfemnlaaGreatDoorW.PrintWords Go.Proofs.YtcgcicngfemnlaaGreatDoorW.PrintLast
def Ev {α : Type} (F : Nat → Option α) (r : α) : Prop := ∃ K, ∀ k, K ≤ k → F k = some r
theorem Ev.pure {α : Type} (r : α) : Ev (fun _ => some r) r := ⟨0, fun _ _ => rfl⟩
theorem Ev.const {α : Type} {x : Option α} {r : α} (h : x = some r) : Ev (fun _ => x) r := ⟨0, fun _ _ => h⟩
theorem Ev.succ {α : Type} {F : Nat → Option α} {r : α} (h : Ev (fun k => F (k + 1)) r) : Ev F r := by
  obtain ⟨K, h⟩ := h
  refine ⟨K + 1, fun k hk => ?_⟩
  obtain ⟨j, rfl⟩ : ∃ j, k = j + 1 := ⟨k - 1, by omega⟩
  exact h j (by omega)
theorem Ev.bind {α β : Type} {F : Nat → Option α} {G : Nat → α → Option β} {t : α} {r : β} (h : Ev F t) (h2 : Ev (fun k => G k t) r) : Ev (fun k => (F k).bind (G k)) r := by
  obtain ⟨K, h⟩ := h
  obtain ⟨K2, h2⟩ := h2
  refine ⟨max K K2, fun k hk => ?_⟩
  simp only [h k (by omega), Option.bind_some]
  exact h2 k (by omega)
theorem Ev.bindc {α β : Type} {x : Option α} {G : Nat → α → Option β} {t : α} {r : β} (h : x = some t) (h2 : Ev (fun k => G k t) r) : Ev (fun k => x.bind (G k)) r := Ev.bind (Ev.const h) h2
theorem Ev.pos {α : Type} {c : Prop} [Decidable c] {F G : Nat → Option α} {r : α} (hc : c) (h : Ev F r) : Ev (fun k => if c then F k else G k) r := by simpa only [if_pos hc] using h
theorem Ev.neg {α : Type} {c : Prop} [Decidable c] {F G : Nat → Option α} {r : α} (hc : ¬ c) (h : Ev G r) : Ev (fun k => if c then F k else G k) r := by simpa only [if_neg hc] using h
theorem Ev.eq {α : Type} {F G : Nat → Option α} {r : α} (h : Ev F r) (e : ∀ k, G k = F k) : Ev G r := by obtain ⟨K, h⟩ := h; exact ⟨K, fun k hk => (e k).trans (h k hk)⟩
theorem Ev.ex {α : Type} {F : Nat → Option α} {r : α} (h : Ev F r) : ∃ k, F k = some r := by obtain ⟨K, h⟩ := h; exact ⟨K, h K (Nat.le_refl _)⟩
theorem wnext (i : Nat) (h : i ≤ 4611686018427387904) : wrap64 ((i : Int) + 1) = ((i + 1 : Nat) : Int) := by unfold wrap64; omega
end Go.Proofs.YtcgcicngfemnlaaGreatDoor.Q
namespace Go.Proofs.YtcgcicngfemnlaaGreatDoor.Q
open Go.RowKit Go.Proofs.YtcgcicngfemnlaaGreatDoorW.PrintWords Go.Proofs.YtcgcicngfemnlaaGreatDoorW.PrintLast
abbrev LN := S88
abbrev IN := S83
instance : DecidableEq IN := fun a b => decidable_of_iff (a.f0 = b.f0 ∧ a.f1 = b.f1 ∧ a.f2 = b.f2) ⟨fun h => by
  obtain ⟨a0, a1, a2⟩ := a
  obtain ⟨b0, b1, b2⟩ := b
  obtain ⟨rfl, rfl, rfl⟩ := h
  rfl, fun h => by subst h; exact ⟨rfl, rfl, rfl⟩⟩
def cv (l : List LN) : List IN := l.map fun x => ⟨x.f0, x.f1, x.f2⟩
theorem cv_length (l : List LN) : (cv l).length = l.length := List.length_map _
theorem toNodeS_l0 (l : List LN) (hl : l.length ≤ 1048576) : ∀ (n i : Nat), i + n = l.length → Ev (fun k => laws_toNodeS.l0 k l ((cv l).take i ++ List.replicate n z83) (i : Int)) (cv l) := by
  intro n
  induction n with
  | zero =>
    intro i h
    refine Ev.succ ?_
    simp only [laws_toNodeS.l0]
    refine Ev.neg (by omega) ?_
    rw [List.take_of_length_le (by rw [cv_length]; omega), List.replicate_zero, List.append_nil]
    exact Ev.pure _
  | succ n ih =>
    intro i h
    refine Ev.succ ?_
    simp only [laws_toNodeS.l0]
    have hlen : ((cv l).take i ++ List.replicate (n + 1) z83).length = l.length := by simp [cv_length]; omega
    refine Ev.pos (by omega) (Ev.pos (by omega) (Ev.bindc rfl (Ev.pos (by rw [hlen]; omega) ?_)))
    refine (ih (i + 1) (by omega)).eq fun k => ?_
    rw [wnext i (by omega)]
    congr 1
    have hi : i < l.length := by omega
    have e1 : (cv l).take (i + 1) = (cv l).take i ++ [⟨l[i].f0, l[i].f1, l[i].f2⟩] := by
      rw [List.take_succ_eq_append_getElem (by rw [cv_length]; omega)]
      simp [cv]
    rw [e1, Int.toNat_natCast, List.set_append_right _ _ (by simp; omega)]
    have e2 : i - ((cv l).take i).length = 0 := by simp [cv_length]; omega
    rw [e2, List.replicate_succ, List.set_cons_zero]
    simp [rd_T88, hi]
theorem toTrie_ev (l : List LN) (hl : l.length ≤ 1048576) : Ev (fun k => laws_toTrie.f k l) (cv l) := by
  unfold laws_toTrie.f laws_toNodeS.f
  refine Ev.bind (t := cv l) ?_ (Ev.pure _)
  refine Ev.pos (by omega) (Ev.pos (by omega) ?_)
  have := toNodeS_l0 l hl l.length 0 (by omega)
  simpa using this
theorem szTrie_eq (l : List LN) (hl : l.length ≤ 9223372036854775807) : laws_szTrie.f l 1048576 = some (if l.length ≤ 1048576 then (1048576 - l.length : Int) else -1) := by
  unfold laws_szTrie.f laws_szNodeS.f
  have e : wrap64 (1048576 - (l.length : Int)) = 1048576 - (l.length : Int) := by unfold wrap64; omega
  rw [e]
  by_cases h : l.length ≤ 1048576
  · rw [if_neg (show ¬ ((1048576 : Int) - l.length < 0) by omega), Option.bind_some, if_neg (show ¬ ((1048576 : Int) - l.length < 0) by omega), if_pos h]
  · rw [if_pos (show ((1048576 : Int) - l.length < 0) by omega), Option.bind_some, if_pos (by decide), if_neg h]
theorem eqNode_eq (a b : IN) : laws_eqNode.f a.f0 a.f1 a.f2 b.f0 b.f1 b.f2 = some (decide (a = b)) := by
  obtain ⟨a0, a1, a2⟩ := a
  obtain ⟨b0, b1, b2⟩ := b
  unfold laws_eqNode.f
  by_cases h0 : a0 = b0
  · by_cases h1 : a1 = b1
    · cases a2 <;> cases b2 <;> simp [h0, h1]
    · simp [h0, h1]
  · simp [h0]
theorem rd_nat' (l : List IN) (i : Nat) (h : i < l.length) : rd_T83 l (i : Int) = l[i] := by simp [rd_T83, h]
theorem eqNodeS_l0 (a b : List IN) (hab : a.length = b.length) (hl : a.length ≤ 1048576) : ∀ (n i : Nat), i + n = a.length → Ev (fun k => laws_eqNodeS.l0 k a b (i : Int)) (decide (a.drop i = b.drop i)) := by
  intro n
  induction n with
  | zero =>
    intro i h
    refine Ev.succ ?_
    simp only [laws_eqNodeS.l0]
    refine Ev.neg (by omega) ?_
    rw [List.drop_of_length_le (by omega), List.drop_of_length_le (by omega)]
    exact Ev.pure _
  | succ n ih =>
    intro i h
    refine Ev.succ ?_
    simp only [laws_eqNodeS.l0]
    have hi : i < a.length := by omega
    have hi2 : i < b.length := by omega
    refine Ev.pos (by omega) (Ev.pos (by omega) (Ev.pos (by omega) ?_))
    simp only [eqNode_eq, Option.bind_some, rd_nat' a i hi, rd_nat' b i hi2]
    have hd : (a.drop i = b.drop i) ↔ (a[i] = b[i] ∧ a.drop (i + 1) = b.drop (i + 1)) := by
      rw [List.drop_eq_getElem_cons hi, List.drop_eq_getElem_cons hi2]
      exact List.cons_eq_cons
    rw [decide_eq_decide.2 hd]
    by_cases e : a[i] = b[i]
    · refine Ev.pos (by simp [e]) ?_
      rw [wnext i (by omega)]
      have hq := ih (i + 1) (by omega)
      have e2 : decide (a[i] = b[i] ∧ a.drop (i + 1) = b.drop (i + 1)) = decide (a.drop (i + 1) = b.drop (i + 1)) := decide_eq_decide.2 (and_iff_right e)
      rw [e2]
      exact hq
    · refine Ev.neg (by simp [e]) ?_
      have e2 : decide (a[i] = b[i] ∧ a.drop (i + 1) = b.drop (i + 1)) = false := decide_eq_false (fun h => e h.1)
      rw [e2]
      exact Ev.pure _
theorem eqTrie_ev (a b : List IN) (hl : a.length ≤ 1048576) : Ev (fun k => laws_eqTrie.f k a b) (decide (a = b)) := by
  unfold laws_eqTrie.f laws_eqNodeS.f
  by_cases hab : a.length = b.length
  · refine Ev.bind (t := decide (a = b)) (Ev.pos (by omega) ?_) ?_
    · simpa using eqNodeS_l0 a b hab hl a.length 0 (by omega)
    · by_cases e : a = b
      · simp only [e, decide_true, if_true]; exact Ev.pure _
      · simp only [e, decide_false, Bool.false_eq_true, if_false]; exact Ev.pure _
  · have e : a ≠ b := fun h => hab (congrArg List.length h)
    refine Ev.bind (t := false) (Ev.neg (by omega) (Ev.pure _)) ?_
    simp only [e, decide_false, Bool.false_eq_true, if_false]
    exact Ev.pure _
end Go.Proofs.YtcgcicngfemnlaaGreatDoor.Q
namespace Go.Proofs.YtcgcicngfemnlaaGreatDoor.Q
open Go.RowKit Go.Proofs.YtcgcicngfemnlaaGreatDoorW.PrintWords Go.Proofs.YtcgcicngfemnlaaGreatDoorW.PrintLast
def letterW (n : Int) : ByteArray := strOfNums [(wrap64 (97 + n)) % 256]
def prefsW : List ByteArray → List IN → Option (List ByteArray)
  | ps, [] => some ps
  | ps, n :: rest => if 0 ≤ n.f1 ∧ n.f1 < ps.length ∧ 0 ≤ n.f0 ∧ n.f0 ≤ 25 then prefsW (ps ++ [rdOf ByteArray.empty ps n.f1 ++ letterW n.f0]) rest else none
def wordsW : List IN → List ByteArray → List ByteArray
  | n :: l, p :: ps => if n.f2 = true then p :: wordsW l ps else wordsW l ps
  | _, _ => []
def resP : Option (List ByteArray) → List ByteArray × Bool
  | some r => (r, true)
  | none => ([], false)
theorem in_eq (a b c : Int) : impl_in.f a b c = some (decide (b ≤ a ∧ a ≤ c)) := by
  unfold impl_in.f
  by_cases h : b ≤ a
  · rw [if_pos h]; congr 1; exact decide_eq_decide.2 (by omega)
  · rw [if_neg (by omega)]; congr 1; exact (decide_eq_false (by omega)).symm
theorem letterW_size (n : Int) : (letterW n).size = 1 := by
  simp [letterW, strOfNums, ByteArray.size]
theorem size_app (a b : ByteArray) : (a ++ b).size = a.size + b.size := by simp
theorem prefixes_l0 (y : List IN) (hy : y.length ≤ 1000) : ∀ (n i : Nat) (ps : List ByteArray), i + n = y.length → ps.length = i + 1 → (∀ p ∈ ps, p.size ≤ ps.length) →
    Ev (fun k => impl_Trie_prefixes.l0 k ps y (y.length : Int) (i : Int)) (resP (prefsW ps (y.drop i))) := by
  intro n
  induction n with
  | zero =>
    intro i ps h hp hs
    refine Ev.succ ?_
    simp only [impl_Trie_prefixes.l0]
    rw [List.drop_of_length_le (by omega)]
    exact Ev.neg (by omega) (Ev.pure _)
  | succ n ih =>
    intro i ps h hp hs
    refine Ev.succ ?_
    simp only [impl_Trie_prefixes.l0, in_eq, impl_letter.f, Option.bind_some]
    have hi : i < y.length := by omega
    rw [List.drop_eq_getElem_cons hi]
    simp only [rd_nat' y i hi, prefsW]
    refine Ev.pos (by omega) (Ev.pos (by omega) (Ev.pos (by omega) ?_))
    by_cases h1 : 0 ≤ y[i].f1 ∧ y[i].f1 ≤ (i : Int)
    · refine Ev.pos (by simpa using h1) ?_
      by_cases h2 : 0 ≤ y[i].f0 ∧ y[i].f0 ≤ 25
      · refine Ev.pos (by simpa using h2) (Ev.pos h1.1 (Ev.pos (by omega) ?_))
        rw [if_pos (by omega)]
        have hmem : rdOf ByteArray.empty ps y[i].f1 ∈ ps := at_mem h1.1 (by omega)
        have hsz := hs _ hmem
        have hls := letterW_size y[i].f0
        have hls' : (strOfNums [(wrap64 (97 + y[i].f0)) % 256]).size = 1 := hls
        refine Ev.pos (by rw [hls']; omega) (Ev.pos (by omega) ?_)
        rw [wnext i (by omega)]
        refine ih (i + 1) _ (by omega) (by simp; omega) (fun p hp2 => ?_)
        rw [List.length_append, List.length_singleton]
        rcases List.mem_append.1 hp2 with h3 | h3
        · have := hs p h3; omega
        · rw [List.mem_singleton.1 h3, size_app]
          have : (letterW y[i].f0).size = 1 := hls
          omega
      · rw [if_neg (by omega)]
        exact Ev.neg (by simpa using h2) (Ev.pure _)
    · rw [if_neg (by omega)]
      exact Ev.neg (by simpa using h1) (Ev.pure _)
def prefixesW (l : List IN) : Option (List ByteArray) := if 1 ≤ l.length ∧ l.length ≤ 481 then prefsW [ByteArray.empty] (l.drop 1) else none
theorem prefixes_ev (l : List IN) : Ev (fun k => impl_Trie_prefixes.f k l) (resP (prefixesW l)) := by
  unfold impl_Trie_prefixes.f prefixesW
  simp only [in_eq, Option.bind_some]
  by_cases h : 1 ≤ l.length ∧ l.length ≤ 481
  · rw [if_pos h]
    refine Ev.pos (by simp; omega) (Ev.pos (by omega) ?_)
    have := prefixes_l0 (l.drop 1) (by simp; omega) (l.drop 1).length 0 [ByteArray.empty] (by omega) rfl (fun p hp => by rw [List.mem_singleton.1 hp]; exact Nat.zero_le _)
    rw [List.drop_zero] at this
    exact this
  · rw [if_neg h]
    exact Ev.neg (by simp; omega) (Ev.pure _)
theorem prefsW_length : ∀ {l : List IN} {ps r : List ByteArray}, prefsW ps l = some r → r.length = ps.length + l.length
  | [], ps, r, h => by
    simp only [prefsW] at h
    injection h with h
    subst h; rfl
  | n :: l, ps, r, h => by
    simp only [prefsW] at h
    split at h
    · have := prefsW_length h
      simp at this ⊢
      omega
    · cases h
theorem prefixesW_length {l : List IN} {r : List ByteArray} (h : prefixesW l = some r) : r.length = l.length ∧ l.length ≤ 481 ∧ 1 ≤ l.length := by
  unfold prefixesW at h
  split at h
  · rename_i hl
    have := prefsW_length h
    simp at this
    omega
  · cases h
theorem words_l0 (ps : List ByteArray) (l : List IN) (hl : l.length ≤ 1000) (hp : ps.length = l.length) : ∀ (n i : Nat) (acc : List ByteArray), i + n = l.length → acc.length ≤ i →
    Ev (fun k => impl_Trie_words.l0 k ps acc l (l.length : Int) (i : Int)) (acc ++ wordsW (l.drop i) (ps.drop i)) := by
  intro n
  induction n with
  | zero =>
    intro i acc h ha
    refine Ev.succ ?_
    simp only [impl_Trie_words.l0]
    rw [List.drop_of_length_le (by omega), List.drop_of_length_le (by omega)]
    simp only [wordsW, List.append_nil]
    exact Ev.neg (by omega) (Ev.pure _)
  | succ n ih =>
    intro i acc h ha
    refine Ev.succ ?_
    simp only [impl_Trie_words.l0]
    have hi : i < l.length := by omega
    have hi2 : i < ps.length := by omega
    rw [List.drop_eq_getElem_cons hi, List.drop_eq_getElem_cons hi2]
    simp only [rd_nat' l i hi, rd_nat ps hi2, wordsW]
    refine Ev.pos (by omega) (Ev.pos (by omega) (Ev.pos (by omega) ?_))
    rw [wnext i (by omega)]
    by_cases e : l[i].f2 = true
    · refine Ev.pos e (Ev.pos (by omega) (Ev.pos (by omega) ?_))
      have := ih (i + 1) (acc ++ [ps[i]]) (by omega) (by simp; omega)
      rw [if_pos e]
      simpa using this
    · refine Ev.neg e ?_
      rw [if_neg e]
      exact ih (i + 1) acc (by omega) (by omega)
theorem words_ev (l : List IN) (ps : List ByteArray) (h : prefixesW l = some ps) : Ev (fun k => impl_Trie_words.f k l) (wordsW l ps) := by
  unfold impl_Trie_words.f
  have hl := prefixesW_length h
  refine Ev.bind (prefixes_ev l) ?_
  rw [h]
  have := words_l0 ps l (by omega) hl.1 l.length 0 [] (by omega) (by simp)
  simpa [resP] using this
theorem node_l0 (a b : List IN) (hab : a.length = b.length) (hl : a.length ≤ 1048576) : ∀ (n i : Nat), i + n = a.length → Ev (fun k => impl_Node.l0 k a b (a.length : Int) (i : Int)) (decide (a.drop i = b.drop i)) := by
  intro n
  induction n with
  | zero =>
    intro i h
    refine Ev.succ ?_
    simp only [impl_Node.l0]
    refine Ev.neg (by omega) ?_
    rw [List.drop_of_length_le (by omega), List.drop_of_length_le (by omega)]
    exact Ev.pure _
  | succ n ih =>
    intro i h
    refine Ev.succ ?_
    simp only [impl_Node.l0]
    have hi : i < a.length := by omega
    have hi2 : i < b.length := by omega
    refine Ev.pos (by omega) (Ev.pos (by omega) (Ev.pos (by omega) (Ev.pos (by omega) ?_)))
    simp only [rd_nat' a i hi, rd_nat' b i hi2]
    have hd : (a.drop i = b.drop i) ↔ (a[i] = b[i] ∧ a.drop (i + 1) = b.drop (i + 1)) := by
      rw [List.drop_eq_getElem_cons hi, List.drop_eq_getElem_cons hi2]
      exact List.cons_eq_cons
    have hne : ∀ x y : IN, (!(x.f0 == y.f0) || (!(x.f1 == y.f1) || !(x.f2 == y.f2))) = !decide (x = y) := fun x y => by
      obtain ⟨x0, x1, x2⟩ := x
      obtain ⟨y0, y1, y2⟩ := y
      by_cases h0 : x0 = y0 <;> by_cases h1 : x1 = y1 <;> by_cases h2 : x2 = y2 <;> simp [h0, h1, h2]
    rw [decide_eq_decide.2 hd, hne]
    by_cases e : a[i] = b[i]
    · refine Ev.neg (by simp [e]) ?_
      rw [wnext i (by omega)]
      have hq := ih (i + 1) (by omega)
      have e2 : decide (a[i] = b[i] ∧ a.drop (i + 1) = b.drop (i + 1)) = decide (a.drop (i + 1) = b.drop (i + 1)) := decide_eq_decide.2 (and_iff_right e)
      rw [e2]
      exact hq
    · refine Ev.pos (by simp [e]) ?_
      have e2 : decide (a[i] = b[i] ∧ a.drop (i + 1) = b.drop (i + 1)) = false := decide_eq_false (fun h => e h.1)
      rw [e2]
      exact Ev.pure _
theorem node_ev (a b : List IN) (hl : a.length ≤ 1048576) : Ev (fun k => impl_Node.f k a b) (decide (a = b)) := by
  unfold impl_Node.f
  by_cases hab : a.length = b.length
  · refine Ev.pos (by omega) ?_
    simpa using node_l0 a b hab hl a.length 0 (by omega)
  · have e : a ≠ b := fun h => hab (congrArg List.length h)
    rw [decide_eq_false e]
    exact Ev.neg (by omega) (Ev.pure _)
theorem sorted_l0 (l : List ByteArray) (hl : l.length ≤ 1000000) : ∀ (i : Nat), i < l.length → Ev (fun k => slices_IsSorted_string_string.l0 k l (i : Int)) (decide (∀ j, j < i → atW l (j : Int) ≤ atW l ((j + 1 : Nat) : Int))) := by
  intro i
  induction i with
  | zero =>
    intro h
    refine Ev.succ ?_
    simp only [slices_IsSorted_string_string.l0]
    rw [decide_eq_true (fun j hj => absurd hj (Nat.not_lt_zero _))]
    exact Ev.neg (by omega) (Ev.pure _)
  | succ i ih =>
    intro h
    refine Ev.succ ?_
    have e1 : wrap64 (((i + 1 : Nat) : Int) - 1) = (i : Int) := by unfold wrap64; omega
    simp only [slices_IsSorted_string_string.l0, less_pure, Option.bind_some, e1]
    refine Ev.pos (by omega) (Ev.pos (by omega) (Ev.pos (by omega) (Ev.pos (by omega) (Ev.pos (by omega) ?_))))
    by_cases hlt : atW l ((i + 1 : Nat) : Int) < atW l (i : Int)
    · have e2 : decide (∀ j, j < i + 1 → atW l (j : Int) ≤ atW l ((j + 1 : Nat) : Int)) = false := decide_eq_false (fun hf => absurd hlt (List.not_lt.2 (hf i (by omega))))
      rw [e2]
      exact Ev.pos (decide_eq_true hlt) (Ev.pure _)
    · refine Ev.neg (fun h2 => hlt (of_decide_eq_true h2)) ?_
      have hq := ih (by omega)
      have e2 : decide (∀ j, j < i + 1 → atW l (j : Int) ≤ atW l ((j + 1 : Nat) : Int)) = decide (∀ j, j < i → atW l (j : Int) ≤ atW l ((j + 1 : Nat) : Int)) := decide_eq_decide.2 ⟨fun hf j hj => hf j (by omega), fun hf j hj => by
        by_cases ej : j = i
        · subst ej; exact List.not_lt.1 hlt
        · exact hf j (by omega)⟩
      rw [e2]
      exact hq
theorem adj_SW (l : List ByteArray) : (∀ j, j < l.length - 1 → atW l (j : Int) ≤ atW l ((j + 1 : Nat) : Int)) ↔ SW l := by
  constructor
  · intro h
    unfold SW
    rw [List.pairwise_iff_getElem]
    have key : ∀ d i, i + d < l.length → atW l (i : Int) ≤ atW l ((i + d : Nat) : Int) := by
      intro d
      induction d with
      | zero => intro i _; exact List.le_refl _
      | succ d ih =>
        intro i hi
        exact List.le_trans (ih i (by omega)) (h (i + d) (by omega))
    intro i j hi hj hij
    have := key (j - i) i (by omega)
    rw [show i + (j - i) = j by omega] at this
    simpa [atW, rdOf, hi, hj] using this
  · intro h j hj
    exact h.at (by omega) (by omega) (by omega)
instance (l : List ByteArray) : Decidable (SW l) := inferInstanceAs (Decidable (l.Pairwise fun a b => lw a ≤ lw b))
theorem sorted_ev (l : List ByteArray) (hl : l.length ≤ 1000000) : Ev (fun k => slices_IsSorted_string_string.f k l) (decide (SW l)) := by
  unfold slices_IsSorted_string_string.f
  by_cases h0 : l.length = 0
  · obtain rfl := List.eq_nil_of_length_eq_zero h0
    refine Ev.succ ?_
    simp only [slices_IsSorted_string_string.l0]
    rw [decide_eq_true (show SW [] from List.Pairwise.nil)]
    exact Ev.neg (by simp [wrap64]) (Ev.pure _)
  · have e : wrap64 ((l.length : Int) - 1) = ((l.length - 1 : Nat) : Int) := by unfold wrap64; omega
    rw [e, ← decide_eq_decide.2 (adj_SW l)]
    exact sorted_l0 l hl (l.length - 1) (by omega)
def isTrieW (l : List IN) : Bool :=
  match prefixesW l with
  | none => false
  | some ps => if ps.any longW then false else
    decide ((wordsW l ps).length ≤ 40) && (decide (SW (wordsW l ps)) && decide (trieW (wordsW l ps) = l))
theorem wordsW_mem : ∀ {l : List IN} {ps : List ByteArray} {x : ByteArray}, x ∈ wordsW l ps → x ∈ ps
  | [], ps, x, h => by simp [wordsW] at h
  | n :: l, [], x, h => by simp [wordsW] at h
  | n :: l, p :: ps, x, h => by
    simp only [wordsW] at h
    split at h
    · rcases List.mem_cons.1 h with rfl | h
      · exact List.mem_cons_self
      · exact List.mem_cons_of_mem _ (wordsW_mem h)
    · exact List.mem_cons_of_mem _ (wordsW_mem h)
theorem allPfx_len : ∀ (ws : List ByteArray), (∀ w ∈ ws, w.size ≤ 12) → (allPfx ws).length ≤ 1 + 12 * ws.length := by
  intro ws h
  unfold allPfx
  rw [List.length_cons]
  have : (ws.flatMap fun w => pfx w w.size).length ≤ 12 * ws.length := by
    induction ws with
    | nil => simp
    | cons w ws ih =>
      rw [List.flatMap_cons, List.length_append, List.length_cons]
      have h1 := ih (fun x hx => h x (List.mem_cons_of_mem _ hx))
      have h2 := h w List.mem_cons_self
      have h3 : (pfx w w.size).length = w.size := by simp [pfx]
      omega
  omega
theorem okTrieOf_of {ws : List ByteArray} (h12 : ∀ w ∈ ws, w.size ≤ 12) (h40 : ws.length ≤ 1000000) (hs : SW ws) : impl_trieOf.f ws = some (trieW ws) := by
  unfold impl_trieOf.f okTrieOf
  have := allPfx_len ws h12
  rw [if_pos]
  simp only [Bool.and_eq_true, decide_eq_true_eq]
  exact ⟨⟨by omega, by omega⟩, hs⟩
theorem prefW_le (ws : List ByteArray) (h : ∀ w ∈ ws, w.size ≤ 12) : (prefW ws).length ≤ 1 + 12 * ws.length := Nat.le_trans (prefW_len ws) (allPfx_len ws h)
theorem trieW_length (ws : List ByteArray) : (trieW ws).length = (prefW ws).length := List.length_map _
theorem isTrie_ev (l : List IN) : Ev (fun k => impl_isTrie.f k l) (isTrieW l) := by
  unfold impl_isTrie.f isTrieW
  refine Ev.bind (prefixes_ev l) ?_
  cases hp : prefixesW l with
  | none =>
    simp only [resP]
    refine Ev.neg (by decide) (Ev.succ ?_)
    simp only [impl_isTrie.j0]
    exact Ev.pos trivial (Ev.pure _)
  | some ps =>
    simp only [resP]
    have hl := prefixesW_length hp
    refine Ev.pos trivial (Ev.bindc (t := ps.any longW) (by unfold slices_ContainsFunc_string_string_impl_isTrie_1.f; rw [if_pos (by omega)]) (Ev.succ ?_))
    simp only [impl_isTrie.j0]
    by_cases h12 : ps.any longW = true
    · rw [if_pos h12]
      exact Ev.pos h12 (Ev.pure _)
    · rw [if_neg h12]
      refine Ev.neg h12 (Ev.bind (words_ev l ps hp) ?_)
      have hsz : ∀ w ∈ wordsW l ps, w.size ≤ 12 := fun w hw => by
        have h1 : ¬ longW w = true := fun h2 => h12 (List.any_eq_true.2 ⟨w, wordsW_mem hw, h2⟩)
        simp [longW] at h1
        omega
      by_cases h40 : (wordsW l ps).length ≤ 40
      · rw [decide_eq_true h40, Bool.true_and]
        refine Ev.pos (by omega) (Ev.bind (sorted_ev _ (by omega)) ?_)
        by_cases hs : SW (wordsW l ps)
        · rw [decide_eq_true hs, Bool.true_and]
          have hle := prefW_le _ hsz
          refine Ev.pos rfl (Ev.bindc (okTrieOf_of hsz (by omega) hs) (Ev.bind (node_ev _ _ (by rw [trieW_length]; omega)) (Ev.pure _)))
        · rw [decide_eq_false hs, Bool.false_and]
          exact Ev.neg (by decide) (Ev.pure _)
      · rw [decide_eq_false h40, Bool.false_and]
        exact Ev.neg (by omega) (Ev.pure _)
end Go.Proofs.YtcgcicngfemnlaaGreatDoor.Q
namespace Go.Proofs.YtcgcicngfemnlaaGreatDoor.Q
open Go.RowKit Go.Proofs.YtcgcicngfemnlaaGreatDoorW.PrintWords Go.Proofs.YtcgcicngfemnlaaGreatDoorW.PrintLast
def letters (w : ByteArray) : Prop := ∀ x ∈ lw w, 97 ≤ x.toNat ∧ x.toNat ≤ 122
def okWord (w : ByteArray) : Prop := w.size ≤ 12 ∧ letters w
structure VW (ws : List ByteArray) : Prop where
  ss : SS ws
  ok : ∀ w ∈ ws, okWord w
  len : ws.length ≤ 40
def V (l : List IN) : Prop := ∃ ws, VW ws ∧ l = trieW ws
theorem letters_empty : letters ByteArray.empty := fun x hx => by cases hx
theorem letters_cut {w : ByteArray} (h : letters w) (n : Nat) : letters (w.extract 0 n) := fun x hx => by
  rw [lw_extract] at hx
  exact h x (List.mem_of_mem_take hx)
theorem prefW_ok {ws : List ByteArray} (h : ∀ w ∈ ws, okWord w) {p : ByteArray} (hp : p ∈ prefW ws) : okWord p := by
  rcases mem_prefW.1 hp with rfl | ⟨w, hw, j, hj, rfl⟩
  · exact ⟨Nat.zero_le _, letters_empty⟩
  · have := (h w hw).1
    exact ⟨by rw [ext_size _ _ (by omega)]; omega, letters_cut (h w hw).2 _⟩
theorem prefW_pos (ws : List ByteArray) : 0 < (prefW ws).length := List.length_pos_of_mem (mem_prefW.2 (.inl rfl))
theorem prefW_zero (ws : List ByteArray) : rdOf ByteArray.empty (prefW ws) 0 = ByteArray.empty := by
  obtain ⟨k, hk, e⟩ := List.getElem_of_mem (mem_prefW.2 (.inl rfl) : ByteArray.empty ∈ prefW ws)
  by_cases h0 : k = 0
  · subst h0
    have := rd_nat (prefW ws) hk
    exact this.trans e
  · have h1 := ss_at (prefW_ss ws) (show 0 < k by omega) hk
    rw [rd_nat _ hk, e] at h1
    exact absurd h1 (List.not_lt_nil _)
theorem prefW_nonzero (ws : List ByteArray) {k : Nat} (h0 : 0 < k) (hk : k < (prefW ws).length) : (rdOf ByteArray.empty (prefW ws) (k : Int)).size ≠ 0 := fun e => by
  have h1 := ss_at (prefW_ss ws) h0 hk
  have h2 : lw (rdOf ByteArray.empty (prefW ws) (k : Int)) = [] := List.eq_nil_of_length_eq_zero (by rw [lw_length]; exact e)
  rw [h2] at h1
  exact absurd h1 (List.not_lt_nil _)
theorem lw_app (a b : ByteArray) : lw (a ++ b) = lw a ++ lw b := by simp [lw]
theorem lw_letterW (n : Int) (h0 : 0 ≤ n) (h1 : n ≤ 25) : lw (letterW n) = [UInt8.ofNat (97 + n.toNat)] := by
  have e : (wrap64 (97 + n)) % 256 = ((97 + n.toNat : Nat) : Int) := by unfold wrap64; omega
  unfold letterW
  rw [e]
  rfl
theorem cut_last {p : ByteArray} (h : letters p) (h0 : p.size ≠ 0) : 0 ≤ (bt p ((p.size : Int) - 1) + 159) % 256 ∧ (bt p ((p.size : Int) - 1) + 159) % 256 ≤ 25 ∧ p.extract 0 (p.size - 1) ++ letterW ((bt p ((p.size : Int) - 1) + 159) % 256) = p := by
  have e : ((p.size : Int) - 1).toNat = p.size - 1 := by omega
  have hlt : p.size - 1 < p.size := by omega
  have hl : p.size - 1 < (lw p).length := by rw [lw_length]; omega
  have hb : bt p ((p.size : Int) - 1) = ((p[p.size - 1]'hlt).toNat : Int) := by simp [bt, e, hlt]
  have hx : (lw p)[p.size - 1]'hl = p[p.size - 1]'hlt := rfl
  have hr := h _ (List.getElem_mem hl)
  rw [hx] at hr
  rw [hb]
  have h1 : (((p[p.size - 1]'hlt).toNat : Int) + 159) % 256 = ((p[p.size - 1]'hlt).toNat : Int) - 97 := by omega
  rw [h1]
  refine ⟨by omega, by omega, lw_inj ?_⟩
  rw [lw_app, lw_extract, lw_letterW _ (by omega) (by omega)]
  have h2 : (97 + (((p[p.size - 1]'hlt).toNat : Int) - 97).toNat) = (p[p.size - 1]'hlt).toNat := by omega
  rw [h2, UInt8.ofNat_toNat, ← hx]
  have h3 := List.take_append_getElem hl
  rw [h3]
  exact List.take_of_length_le (by rw [lw_length]; omega)
theorem trieW_at (ws : List ByteArray) {i : Nat} (hi : i < (prefW ws).length) : (trieW ws)[i]'(by rw [trieW_length]; exact hi) = nodeW (prefW ws) ws (rdOf ByteArray.empty (prefW ws) (i : Int)) := by
  rw [rd_nat _ hi]
  simp [trieW]
theorem node_at (ws : List ByteArray) (ho : ∀ w ∈ ws, okWord w) {i : Nat} (h0 : 0 < i) (hi : i < (prefW ws).length) : ∃ j, j < i ∧ rdOf ByteArray.empty (prefW ws) (j : Int) = (rdOf ByteArray.empty (prefW ws) (i : Int)).extract 0 ((rdOf ByteArray.empty (prefW ws) (i : Int)).size - 1) ∧
    (nodeW (prefW ws) ws (rdOf ByteArray.empty (prefW ws) (i : Int))).f1 = (j : Int) ∧ 0 ≤ (nodeW (prefW ws) ws (rdOf ByteArray.empty (prefW ws) (i : Int))).f0 ∧ (nodeW (prefW ws) ws (rdOf ByteArray.empty (prefW ws) (i : Int))).f0 ≤ 25 ∧
    rdOf ByteArray.empty (prefW ws) (j : Int) ++ letterW (nodeW (prefW ws) ws (rdOf ByteArray.empty (prefW ws) (i : Int))).f0 = rdOf ByteArray.empty (prefW ws) (i : Int) := by
  have hz := prefW_nonzero ws h0 hi
  obtain ⟨p, hp⟩ : ∃ p, p = rdOf ByteArray.empty (prefW ws) (i : Int) := ⟨_, rfl⟩
  rw [← hp] at hz ⊢
  obtain ⟨j, hj, e1, e2⟩ := cut_idx hi hp hz
  have hm : p ∈ prefW ws := by rw [hp, rd_nat _ hi]; exact List.getElem_mem hi
  obtain ⟨a1, a2, a3⟩ := cut_last (prefW_ok ho hm).2 hz
  refine ⟨j, hj, e1, ?_, ?_, ?_, ?_⟩
  · unfold nodeW; rw [if_neg hz]; exact congrArg Nat.cast e2
  · unfold nodeW; rw [if_neg hz]; exact a1
  · unfold nodeW; rw [if_neg hz]; exact a2
  · unfold nodeW; rw [if_neg hz, e1]; exact a3
theorem prefsW_trie (ws : List ByteArray) (ho : ∀ w ∈ ws, okWord w) : ∀ (n i : Nat), 0 < i → i + n = (prefW ws).length → prefsW ((prefW ws).take i) ((trieW ws).drop i) = some (prefW ws) := by
  intro n
  induction n with
  | zero =>
    intro i _ h
    rw [List.take_of_length_le (by omega), List.drop_of_length_le (by rw [trieW_length]; omega)]
    rfl
  | succ n ih =>
    intro i h0 h
    have hi : i < (prefW ws).length := by omega
    have hi2 : i < (trieW ws).length := by rw [trieW_length]; exact hi
    rw [List.drop_eq_getElem_cons hi2, trieW_at ws hi]
    obtain ⟨j, hj, _, e1, e2, e3, e4⟩ := node_at ws ho h0 hi
    simp only [prefsW]
    have hl : ((prefW ws).take i).length = i := by rw [List.length_take]; omega
    rw [e1, hl, if_pos ⟨by omega, by omega, e2, e3⟩]
    have hr : rdOf ByteArray.empty ((prefW ws).take i) (j : Int) = rdOf ByteArray.empty (prefW ws) (j : Int) := by
      rw [rd_nat _ (by omega), rd_nat _ (by omega), List.getElem_take]
    rw [hr, e4, ← take_rd _ _ hi]
    exact ih (i + 1) (by omega) (by omega)
theorem prefixesW_trie {ws : List ByteArray} (h : VW ws) : prefixesW (trieW ws) = some (prefW ws) := by
  have h1 := prefW_pos ws
  have h2 := prefW_le ws (fun w hw => (h.ok w hw).1)
  have h3 := h.len
  unfold prefixesW
  rw [if_pos (by rw [trieW_length]; omega)]
  have e : (prefW ws).take 1 = [ByteArray.empty] := by
    rw [take_rd _ 0 h1]
    show [] ++ [rdOf ByteArray.empty (prefW ws) 0] = _
    rw [prefW_zero]; rfl
  have := prefsW_trie ws h.ok ((prefW ws).length - 1) 1 (by omega) (by omega)
  rwa [e] at this
theorem hasW_map (ws : List ByteArray) (ps qs : List ByteArray) : wordsW (qs.map (nodeW ps ws)) qs = qs.filter fun p => hasW ws p := by
  induction qs with
  | nil => rfl
  | cons q qs ih =>
    have e : (nodeW ps ws q).f2 = hasW ws q := by unfold nodeW; split <;> rfl
    simp only [List.map_cons, wordsW, e, ih, List.filter_cons]
theorem mem_prefW_self {ws : List ByteArray} {w : ByteArray} (h : w ∈ ws) : w ∈ prefW ws := by
  by_cases h0 : w.size = 0
  · have : w = ByteArray.empty := lw_inj (List.eq_nil_of_length_eq_zero (by rw [lw_length]; exact h0))
    exact mem_prefW.2 (.inl this)
  · exact mem_prefW.2 (.inr ⟨w, h, w.size - 1, by omega, by rw [show w.size - 1 + 1 = w.size by omega, ext_all]⟩)
theorem filter_ws {ws : List ByteArray} (h : SS ws) : ((prefW ws).filter fun p => hasW ws p) = ws := by
  refine ss_ext ((prefW_ss ws).filter _) h (fun x => ?_)
  rw [List.mem_filter, hasW_iff]
  exact ⟨fun h => h.2, fun h => ⟨mem_prefW_self h, h⟩⟩
theorem wordsW_trie {ws : List ByteArray} (h : SS ws) : wordsW (trieW ws) (prefW ws) = ws := by
  unfold trieW
  rw [hasW_map, filter_ws h]
theorem prefW_set (ws : List ByteArray) : prefW (setW ws) = prefW ws := by
  refine ss_ext (prefW_ss _) (prefW_ss _) (fun x => ?_)
  rw [mem_prefW, mem_prefW]
  refine or_congr Iff.rfl ⟨?_, ?_⟩
  · rintro ⟨w, hw, r⟩; exact ⟨w, mem_setW.1 hw, r⟩
  · rintro ⟨w, hw, r⟩; exact ⟨w, mem_setW.2 hw, r⟩
theorem hasW_set (ws : List ByteArray) (x : ByteArray) : hasW (setW ws) x = hasW ws x := by
  rw [Bool.eq_iff_iff, hasW_iff, hasW_iff, mem_setW]
theorem trieW_set (ws : List ByteArray) : trieW (setW ws) = trieW ws := by
  unfold trieW
  rw [prefW_set]
  refine List.map_congr_left fun p _ => ?_
  unfold nodeW
  simp only [hasW_set]
theorem prefsW_letters : ∀ {l : List IN} {ps r : List ByteArray}, (∀ p ∈ ps, letters p) → prefsW ps l = some r → ∀ p ∈ r, letters p
  | [], ps, r, hp, h => by
    simp only [prefsW] at h
    injection h with h
    subst h; exact hp
  | n :: l, ps, r, hp, h => by
    simp only [prefsW] at h
    split at h
    · rename_i hc
      refine prefsW_letters (fun p hm => ?_) h
      rcases List.mem_append.1 hm with hm | hm
      · exact hp p hm
      · rw [List.mem_singleton.1 hm]
        intro x hx
        rw [lw_app] at hx
        rcases List.mem_append.1 hx with hx | hx
        · exact hp _ (at_mem hc.1 hc.2.1) x hx
        · rw [lw_letterW _ hc.2.2.1 hc.2.2.2] at hx
          rw [List.mem_singleton.1 hx, UInt8.toNat_ofNat_of_lt' (by have := hc.2.2; have hz : UInt8.size = 256 := rfl; omega)]
          have := hc.2.2
          omega
    · cases h
theorem isTrieW_iff (l : List IN) : isTrieW l = true ↔ V l := by
  constructor
  · intro h
    unfold isTrieW at h
    cases hp : prefixesW l with
    | none => rw [hp] at h; cases h
    | some ps =>
      rw [hp] at h
      simp only at h
      split at h
      · cases h
      · rename_i h12
        simp only [Bool.and_eq_true, decide_eq_true_eq] at h
        obtain ⟨h40, _, hl⟩ := h
        refine ⟨setW (wordsW l ps), ⟨setW_ss _, fun w hw => ?_, Nat.le_trans (setW_len _) h40⟩, by rw [trieW_set]; exact hl.symm⟩
        have hm := wordsW_mem (mem_setW.1 hw)
        refine ⟨?_, ?_⟩
        · have h1 : ¬ longW w = true := fun h2 => h12 (List.any_eq_true.2 ⟨w, hm, h2⟩)
          simp [longW] at h1
          omega
        · unfold prefixesW at hp
          split at hp
          · exact prefsW_letters (fun p hp => by rw [List.mem_singleton.1 hp]; exact letters_empty) hp w hm
          · cases hp
  · rintro ⟨ws, h, rfl⟩
    unfold isTrieW
    rw [prefixesW_trie h]
    simp only
    have h1 : ¬ (prefW ws).any longW = true := fun hf => by
      obtain ⟨p, hp, hl⟩ := List.any_eq_true.1 hf
      have := (prefW_ok h.ok hp).1
      simp [longW] at hl
      omega
    rw [if_neg h1, wordsW_trie h.ss]
    simp only [Bool.and_eq_true, decide_eq_true_eq]
    exact ⟨h.len, h.ss.imp (fun h => List.le_of_lt h), trivial⟩
end Go.Proofs.YtcgcicngfemnlaaGreatDoor.Q
namespace Go.Proofs.YtcgcicngfemnlaaGreatDoor.Q
open Go.RowKit Go.Proofs.YtcgcicngfemnlaaGreatDoorW.PrintWords Go.Proofs.YtcgcicngfemnlaaGreatDoorW.PrintLast
theorem l1In_eq (a b c : Int) : spec_l1In.f a b c = some (decide (b ≤ a ∧ a ≤ c)) := by
  unfold spec_l1In.f
  by_cases h : b ≤ a
  · rw [if_pos h]; congr 1; exact decide_eq_decide.2 (by omega)
  · rw [if_neg (by omega)]; congr 1; exact (decide_eq_false (by omega)).symm
theorem bt_nat (a : ByteArray) (i : Nat) (h : i < (lw a).length) : bt a (i : Int) = (((lw a)[i]'h).toNat : Int) := by
  have h2 : i < a.size := by rw [← lw_length]; exact h
  have : ((i : Int)).toNat < a.size := by simpa using h2
  rw [← bt_at a (i : Int) this]
  rfl
theorem lt_drop : ∀ (i : Nat) (x y : Ws), x.take i = y.take i → (x < y ↔ x.drop i < y.drop i)
  | 0, x, y, _ => Iff.rfl
  | i + 1, [], [], _ => Iff.rfl
  | i + 1, [], b :: y, h => by simp at h
  | i + 1, a :: x, [], h => by simp at h
  | i + 1, a :: x, b :: y, h => by
    simp only [List.take_succ_cons, List.cons.injEq] at h
    obtain ⟨rfl, h⟩ := h
    rw [List.cons_lt_cons_self, List.drop_succ_cons, List.drop_succ_cons]
    exact lt_drop i x y h
theorem before_l0 (a b : ByteArray) (ha : a.size ≤ 4294967296) : ∀ (n i : Nat), i + n = a.size → i ≤ b.size → (lw a).take i = (lw b).take i → Ev (fun k => spec_l2Before.l0 k a b (i : Int)) (decide (lw a < lw b)) := by
  intro n
  induction n with
  | zero =>
    intro i h hib he
    refine Ev.succ ?_
    simp only [spec_l2Before.l0]
    refine Ev.neg (by omega) (Ev.succ ?_)
    simp only [spec_l2Before.j1]
    refine Ev.neg (by decide) ?_
    have e : decide ((a.size : Int) < (b.size : Int)) = decide (lw a < lw b) := by
      refine decide_eq_decide.2 ?_
      rw [lt_drop i _ _ he, List.drop_of_length_le (by rw [lw_length]; omega)]
      constructor
      · intro hq
        have hib2 : i < (lw b).length := by rw [lw_length]; omega
        rw [List.drop_eq_getElem_cons hib2]
        exact List.nil_lt_cons _ _
      · intro hq
        have : (lw b).drop i ≠ [] := fun hn => by rw [hn] at hq; exact absurd hq (List.not_lt_nil _)
        have h2 : ¬ (lw b).length ≤ i := fun hn => this (List.drop_of_length_le hn)
        rw [lw_length] at h2
        omega
    rw [e]
    exact Ev.pure _
  | succ n ih =>
    intro i h hib he
    refine Ev.succ ?_
    simp only [spec_l2Before.l0]
    have hia : i < (lw a).length := by rw [lw_length]; omega
    refine Ev.pos (by omega) (Ev.succ ?_)
    simp only [spec_l2Before.j1]
    by_cases hib2 : i < b.size
    · have hbl : i < (lw b).length := by rw [lw_length]; omega
      simp only [bt_nat a i hia, bt_nat b i hbl]
      refine Ev.pos (by simpa using hib2) (Ev.pos (by omega) (Ev.pos (by omega) (Ev.pos (by omega) ?_)))
      by_cases e : (lw a)[i] = (lw b)[i]
      · refine Ev.pos (by rw [e]) ?_
        rw [wnext i (by omega)]
        refine ih (i + 1) (by omega) (by omega) ?_
        rw [List.take_succ_eq_append_getElem hia, List.take_succ_eq_append_getElem hbl, he, e]
      · have hne : ¬ (((lw a)[i]).toNat : Int) = (((lw b)[i]).toNat : Int) := fun hq => e (UInt8.toNat.inj (by omega))
        refine Ev.neg hne ?_
        have e2 : decide ((((lw a)[i]).toNat : Int) < (((lw b)[i]).toNat : Int)) = decide (lw a < lw b) := by
          refine decide_eq_decide.2 ?_
          rw [lt_drop i _ _ he, List.drop_eq_getElem_cons hia, List.drop_eq_getElem_cons hbl, List.cons_lt_cons_iff]
          constructor
          · intro hq; exact .inl (UInt8.lt_iff_toNat_lt.2 (by omega))
          · rintro (hq | hq)
            · have := UInt8.lt_iff_toNat_lt.1 hq; omega
            · exact absurd hq.1 e
        rw [e2]
        exact Ev.pure _
    · refine Ev.neg (by simpa using hib2) ?_
      have e : decide ((a.size : Int) < (b.size : Int)) = decide (lw a < lw b) := by
        refine decide_eq_decide.2 ?_
        rw [lt_drop i _ _ he, List.drop_of_length_le (show (lw b).length ≤ i by rw [lw_length]; omega)]
        exact ⟨fun hq => absurd hq (by omega), fun hq => absurd hq (List.not_lt_nil _)⟩
      rw [e]
      exact Ev.pure _
theorem before_ev (a b : ByteArray) (ha : a.size ≤ 4294967296) : Ev (fun k => spec_l2Before.f k a b) (decide (lw a < lw b)) := by
  unfold spec_l2Before.f
  exact before_l0 a b ha a.size 0 (by omega) (by omega) rfl
theorem same_l0 (a b : List IN) (hl : a.length ≤ 1048576) : ∀ (n i : Nat), i + n = a.length → i ≤ b.length → a.take i = b.take i → Ev (fun k => spec_l2Same.l0 k (i : Int) a b) (decide (a = b)) := by
  intro n
  induction n with
  | zero =>
    intro i h hi he
    refine Ev.succ ?_
    simp only [spec_l2Same.l0]
    refine Ev.neg (by omega) (Ev.succ ?_)
    simp only [spec_l2Same.j1]
    refine Ev.neg (by decide) ?_
    have e : ((a.length : Int) == (b.length : Int)) = decide (a = b) := by
      rw [Bool.eq_iff_iff, beq_iff_eq, decide_eq_true_iff]
      constructor
      · intro hq
        rw [List.take_of_length_le (by omega), List.take_of_length_le (by omega)] at he
        exact he
      · rintro rfl; rfl
    rw [e]
    exact Ev.pure _
  | succ n ih =>
    intro i h hi he
    refine Ev.succ ?_
    simp only [spec_l2Same.l0]
    have hia : i < a.length := by omega
    refine Ev.pos (by omega) (Ev.succ ?_)
    simp only [spec_l2Same.j1]
    by_cases hib : i < b.length
    · refine Ev.pos (by simpa using hib) (Ev.pos (by omega) (Ev.pos (by omega) (Ev.pos (by omega) ?_)))
      simp only [rd_nat' a i hia, rd_nat' b i hib]
      have hne : ∀ x y : IN, (!(x.f0 == y.f0) || (!(x.f1 == y.f1) || !(x.f2 == y.f2))) = !decide (x = y) := fun x y => by
        obtain ⟨x0, x1, x2⟩ := x
        obtain ⟨y0, y1, y2⟩ := y
        by_cases h0 : x0 = y0 <;> by_cases h1 : x1 = y1 <;> by_cases h2 : x2 = y2 <;> simp [h0, h1, h2]
      rw [hne]
      by_cases e : a[i] = b[i]
      · refine Ev.neg (by simp [e]) ?_
        rw [wnext i (by omega)]
        refine ih (i + 1) (by omega) (by omega) ?_
        rw [List.take_succ_eq_append_getElem hia, List.take_succ_eq_append_getElem hib, he, e]
      · refine Ev.pos (by simp [e]) ?_
        rw [decide_eq_false (fun hq => e (by subst hq; rfl))]
        exact Ev.pure _
    · refine Ev.neg (by simpa using hib) ?_
      have e : ((a.length : Int) == (b.length : Int)) = decide (a = b) := by
        rw [Bool.eq_iff_iff, beq_iff_eq, decide_eq_true_iff]
        constructor
        · intro hq; omega
        · rintro rfl; rfl
      rw [e]
      exact Ev.pure _
theorem same_ev (a b : List IN) (hl : a.length ≤ 1048576) : Ev (fun k => spec_l2Same.f k a b) (decide (a = b)) := by
  unfold spec_l2Same.f
  exact same_l0 a b hl a.length 0 (by omega) (by omega) rfl
instance (w : ByteArray) : Decidable (letters w) := inferInstanceAs (Decidable (∀ x ∈ lw w, 97 ≤ x.toNat ∧ x.toNat ≤ 122))
instance (w : ByteArray) : Decidable (okWord w) := inferInstanceAs (Decidable (w.size ≤ 12 ∧ letters w))
theorem word_l0 (a : ByteArray) : ∀ (n i : Nat), i + n = min a.size 13 → (∀ x ∈ (lw a).take i, 97 ≤ x.toNat ∧ x.toNat ≤ 122) → Ev (fun k => spec_l2Word.l0 k a (i : Int)) (decide (okWord a)) := by
  intro n
  induction n with
  | zero =>
    intro i h hx
    refine Ev.succ ?_
    simp only [spec_l2Word.l0]
    have e : decide ((a.size : Int) ≤ 12) = decide (okWord a) := by
      refine decide_eq_decide.2 ⟨fun hs => ⟨by omega, ?_⟩, fun h => by have := h.1; omega⟩
      rw [List.take_of_length_le (by rw [lw_length]; omega)] at hx
      exact hx
    by_cases hs : a.size ≤ 12
    · refine Ev.neg (by omega) (Ev.succ ?_)
      simp only [spec_l2Word.j1]
      refine Ev.neg (by decide) ?_
      rw [e]
      exact Ev.pure _
    · have e1 : i = 13 := by omega
      by_cases h13 : 13 < a.size
      · refine Ev.pos (by omega) (Ev.succ ?_)
        simp only [spec_l2Word.j1]
        refine Ev.neg (by simp; omega) ?_
        rw [e]
        exact Ev.pure _
      · refine Ev.neg (by omega) (Ev.succ ?_)
        simp only [spec_l2Word.j1]
        refine Ev.neg (by decide) ?_
        rw [e]
        exact Ev.pure _
  | succ n ih =>
    intro i h hx
    refine Ev.succ ?_
    simp only [spec_l2Word.l0]
    have hi : i < (lw a).length := by rw [lw_length]; omega
    refine Ev.pos (by omega) (Ev.succ ?_)
    simp only [spec_l2Word.j1, bt_nat a i hi]
    refine Ev.pos (by simp; omega) (Ev.pos (by omega) (Ev.pos (by omega) ?_))
    have hnot : ¬ (97 ≤ ((lw a)[i]).toNat ∧ ((lw a)[i]).toNat ≤ 122) → decide (okWord a) = false := fun hq => decide_eq_false (fun ho => hq (ho.2 _ (List.getElem_mem hi)))
    by_cases h1 : 97 ≤ ((lw a)[i]).toNat
    · refine Ev.neg (by omega) ?_
      by_cases h2 : ((lw a)[i]).toNat ≤ 122
      · refine Ev.neg (by omega) ?_
        rw [wnext i (by omega)]
        refine ih (i + 1) (by omega) (fun x hm => ?_)
        rw [List.take_succ_eq_append_getElem hi] at hm
        rcases List.mem_append.1 hm with hm | hm
        · exact hx x hm
        · rw [List.mem_singleton.1 hm]; exact ⟨h1, h2⟩
      · rw [hnot (by omega)]
        exact Ev.pos (by omega) (Ev.pure _)
    · rw [hnot (by omega)]
      exact Ev.pos (by omega) (Ev.pure _)
theorem word_ev (a : ByteArray) : Ev (fun k => spec_l2Word.f k a) (decide (okWord a)) := by
  unfold spec_l2Word.f
  exact word_l0 a (min a.size 13) 0 (by omega) (fun x hx => by cases hx)
theorem own_eq (l : List ByteArray) (hl : l.length < 8796093022208) : spec_l2Own.f l = some l := by
  unfold spec_l2Own.f
  simp only [Option.bind_some, List.length_nil, Nat.zero_add, List.nil_append]
  rw [if_pos hl]
theorem ins_ss {l : List ByteArray} {w : ByteArray} {i : Nat} (h : SS l) (h1 : ∀ x ∈ l.take i, lw x < lw w) (h2 : ∀ x ∈ l.drop i, lw w < lw x) : (l.take i ++ [w]) ++ l.drop i = setW (w :: l) := by
  have e : l = l.take i ++ l.drop i := (List.take_append_drop i l).symm
  refine ss_ext ?_ (setW_ss _) (fun x => ?_)
  · unfold SS at h ⊢
    rw [e, List.pairwise_append] at h
    rw [List.append_assoc, List.pairwise_append]
    refine ⟨h.1, ?_, fun a ha b hb => ?_⟩
    · rw [List.singleton_append, List.pairwise_cons]
      exact ⟨h2, h.2.1⟩
    · rcases List.mem_append.1 hb with hb | hb
      · rw [List.mem_singleton.1 hb]; exact h1 a ha
      · exact h.2.2 a ha b hb
  · rw [mem_setW, List.mem_cons]
    constructor
    · intro hx
      rcases List.mem_append.1 hx with hx | hx
      · rcases List.mem_append.1 hx with hx | hx
        · exact .inr (List.mem_of_mem_take hx)
        · exact .inl (List.mem_singleton.1 hx)
      · exact .inr (List.mem_of_mem_drop hx)
    · rintro (rfl | hx)
      · simp
      · rw [e] at hx
        rcases List.mem_append.1 hx with hx | hx
        · exact List.mem_append_left _ (List.mem_append_left _ hx)
        · exact List.mem_append_right _ hx
theorem put_l0 (l : List ByteArray) (w : ByteArray) (hl : l.length ≤ 4294967296) (hz : ∀ x ∈ l, x.size ≤ 4294967296) (hs : SS l) : ∀ (n i : Nat), i + n = l.length → (∀ x ∈ l.take i, lw x < lw w) → Ev (fun k => spec_l2Put.l0 k l w (i : Int)) (setW (w :: l)) := by
  intro n
  induction n with
  | zero =>
    intro i h h1
    refine Ev.succ ?_
    simp only [spec_l2Put.l0]
    have e1 : (l.take i).length = i := by rw [List.length_take]; omega
    refine Ev.neg (by omega) (Ev.pos (by omega) (Ev.pos (by omega) (Ev.bindc (own_eq _ (by rw [Int.toNat_natCast, e1]; omega)) ?_)))
    simp only [Option.bind_some, Int.toNat_natCast]
    refine Ev.pos (by simp; omega) (Ev.pos (by simp; omega) ?_)
    rw [ins_ss hs h1 (by rw [List.drop_of_length_le (by omega)]; intro x hx; cases hx)]
    exact Ev.pure _
  | succ n ih =>
    intro i h h1
    refine Ev.succ ?_
    simp only [spec_l2Put.l0]
    have hi : i < l.length := by omega
    have e1 : (l.take i).length = i := by rw [List.length_take]; omega
    refine Ev.pos (by omega) (Ev.pos (by omega) ?_)
    simp only [rd_nat l hi]
    refine Ev.bind (before_ev _ _ (hz _ (List.getElem_mem hi))) ?_
    by_cases hb : lw l[i] < lw w
    · refine Ev.pos (decide_eq_true hb) ?_
      rw [wnext i (by omega)]
      refine ih (i + 1) (by omega) (fun x hx => ?_)
      rw [List.take_succ_eq_append_getElem hi] at hx
      rcases List.mem_append.1 hx with hx | hx
      · exact h1 x hx
      · rw [List.mem_singleton.1 hx]; exact hb
    · refine Ev.neg (fun h2 => hb (of_decide_eq_true h2)) ?_
      by_cases e : l[i] = w
      · refine Ev.pos ((tl_eq _ _).2 e) ?_
        have e2 : setW (w :: l) = l := ss_ext (setW_ss _) hs (fun x => by
          rw [mem_setW, List.mem_cons]
          exact ⟨fun hx => hx.elim (fun hx => by rw [hx, ← e]; exact List.getElem_mem hi) id, .inr⟩)
        rw [e2]
        exact Ev.pure _
      · have hgt : lw w < lw l[i] := by
          refine List.not_le.1 (fun hle => ?_)
          exact e (lw_inj (List.le_antisymm hle (List.not_lt.1 hb)))
        refine Ev.neg (fun h2 => e ((tl_eq _ _).1 h2)) (Ev.pos (by omega) (Ev.bindc (own_eq _ (by rw [Int.toNat_natCast, e1]; omega)) ?_))
        simp only [Option.bind_some, Int.toNat_natCast]
        refine Ev.pos (by simp; omega) (Ev.pos (by simp; omega) ?_)
        rw [ins_ss hs h1 (fun x hx => ?_)]
        · exact Ev.pure _
        · rw [List.drop_eq_getElem_cons hi] at hx
          rcases List.mem_cons.1 hx with rfl | hx
          · exact hgt
          · have := List.pairwise_append.1 ((List.take_append_drop (i + 1) l).symm ▸ hs : SS (l.take (i + 1) ++ l.drop (i + 1)))
            have hm : l[i] ∈ l.take (i + 1) := by
              rw [List.take_succ_eq_append_getElem hi]
              exact List.mem_append_right _ (List.mem_singleton.2 rfl)
            exact List.lt_trans hgt (this.2.2 l[i] hm x hx)
theorem put_ev (l : List ByteArray) (w : ByteArray) (hl : l.length ≤ 4294967296) (hz : ∀ x ∈ l, x.size ≤ 4294967296) (hs : SS l) : Ev (fun k => spec_l2Put.f k l w) (setW (w :: l)) := by
  unfold spec_l2Put.f
  exact put_l0 l w hl hz hs l.length 0 (by omega) (fun x hx => by cases hx)
end Go.Proofs.YtcgcicngfemnlaaGreatDoor.Q
namespace Go.Proofs.YtcgcicngfemnlaaGreatDoor.Q
open Go.RowKit Go.Proofs.YtcgcicngfemnlaaGreatDoorW.PrintWords Go.Proofs.YtcgcicngfemnlaaGreatDoorW.PrintLast
def setRes (l : List ByteArray) : List ByteArray × Bool := if ∀ w ∈ l, okWord w then (setW l, decide (((setW l).length : Int) ≤ 40)) else ([], false)
theorem setW_cons_set (w : ByteArray) (l : List ByteArray) : setW (w :: setW l) = setW (l ++ [w]) := ss_ext (setW_ss _) (setW_ss _) (fun x => by
  rw [mem_setW, mem_setW, List.mem_cons, mem_setW, List.mem_append, List.mem_singleton]
  exact or_comm)
theorem set_l0 (l : List ByteArray) (hl : l.length ≤ 4294967296) : ∀ (n i : Nat), i + n = l.length → (∀ w ∈ l.take i, okWord w) → Ev (fun k => spec_l2Set.l0 k l (setW (l.take i)) (i : Int)) (setRes l) := by
  intro n
  induction n with
  | zero =>
    intro i h ho
    refine Ev.succ ?_
    simp only [spec_l2Set.l0]
    rw [List.take_of_length_le (by omega)] at ho ⊢
    unfold setRes
    rw [if_pos ho]
    exact Ev.neg (by omega) (Ev.pure _)
  | succ n ih =>
    intro i h ho
    refine Ev.succ ?_
    simp only [spec_l2Set.l0]
    have hi : i < l.length := by omega
    refine Ev.pos (by omega) (Ev.pos (by omega) ?_)
    simp only [rd_nat l hi]
    refine Ev.bind (word_ev _) ?_
    by_cases hw : okWord l[i]
    · have h1 := setW_len (l.take i)
      rw [List.length_take] at h1
      refine Ev.pos (decide_eq_true hw) (Ev.bind (put_ev _ _ (by omega) (fun x hx => by have := (ho x (mem_setW.1 hx)).1; omega) (setW_ss _)) ?_)
      rw [wnext i (by omega), setW_cons_set, ← List.take_succ_eq_append_getElem hi]
      refine ih (i + 1) (by omega) (fun w hm => ?_)
      rw [List.take_succ_eq_append_getElem hi] at hm
      rcases List.mem_append.1 hm with hm | hm
      · exact ho w hm
      · rw [List.mem_singleton.1 hm]; exact hw
    · refine Ev.neg (fun h2 => hw (of_decide_eq_true h2)) ?_
      unfold setRes
      rw [if_neg (fun hf => hw (hf _ (List.getElem_mem hi)))]
      exact Ev.pure _
theorem set_ev (l : List ByteArray) (hl : l.length ≤ 4294967296) : Ev (fun k => spec_l2Set.f k l) (setRes l) := by
  unfold spec_l2Set.f
  have e : setW (l.take 0) = [] := List.eq_nil_of_length_eq_zero (Nat.le_zero.1 (setW_len _))
  have := set_l0 l hl l.length 0 (by omega) (fun w hw => by cases hw)
  rw [e] at this
  exact this
theorem has_l0 (l : List ByteArray) (x : ByteArray) (hl : l.length ≤ 4294967296) : ∀ (n i : Nat), i + n = l.length → (∀ y ∈ l.take i, y ≠ x) → Ev (fun k => spec_l2Has.l0 k l x (i : Int)) (hasW l x) := by
  intro n
  induction n with
  | zero =>
    intro i h ho
    refine Ev.succ ?_
    simp only [spec_l2Has.l0]
    rw [List.take_of_length_le (by omega)] at ho
    have e : hasW l x = false := by
      rw [Bool.eq_false_iff]
      intro hf
      exact ho x ((hasW_iff l x).1 hf) rfl
    rw [e]
    exact Ev.neg (by omega) (Ev.pure _)
  | succ n ih =>
    intro i h ho
    refine Ev.succ ?_
    simp only [spec_l2Has.l0]
    have hi : i < l.length := by omega
    refine Ev.pos (by omega) (Ev.pos (by omega) ?_)
    simp only [rd_nat l hi]
    by_cases e : l[i] = x
    · have e2 : hasW l x = true := (hasW_iff l x).2 (e ▸ List.getElem_mem hi)
      rw [e2]
      exact Ev.pos ((tl_eq _ _).2 e) (Ev.pure _)
    · refine Ev.neg (fun h2 => e ((tl_eq _ _).1 h2)) ?_
      rw [wnext i (by omega)]
      refine ih (i + 1) (by omega) (fun y hm => ?_)
      rw [List.take_succ_eq_append_getElem hi] at hm
      rcases List.mem_append.1 hm with hm | hm
      · exact ho y hm
      · rw [List.mem_singleton.1 hm]; exact e
theorem has_ev (l : List ByteArray) (x : ByteArray) (hl : l.length ≤ 4294967296) : Ev (fun k => spec_l2Has.f k l x) (hasW l x) := by
  unfold spec_l2Has.f
  exact has_l0 l x hl l.length 0 (by omega) (fun w hw => by cases hw)
def placeW (l : List ByteArray) (x : ByteArray) : Int := if hasW l x = true then (l.findIdx (fun y => decide (y = x)) : Int) else -1
theorem place_l0 (l : List ByteArray) (x : ByteArray) (hl : l.length ≤ 4294967296) : ∀ (n i : Nat), i + n = l.length → (∀ y ∈ l.take i, y ≠ x) → Ev (fun k => spec_l2Place.l0 k l x (i : Int)) (placeW l x) := by
  intro n
  induction n with
  | zero =>
    intro i h ho
    refine Ev.succ ?_
    simp only [spec_l2Place.l0]
    rw [List.take_of_length_le (by omega)] at ho
    unfold placeW
    rw [if_neg (fun hf => ho x ((hasW_iff l x).1 hf) rfl)]
    exact Ev.neg (by omega) (Ev.pure _)
  | succ n ih =>
    intro i h ho
    refine Ev.succ ?_
    simp only [spec_l2Place.l0]
    have hi : i < l.length := by omega
    refine Ev.pos (by omega) (Ev.pos (by omega) ?_)
    simp only [rd_nat l hi]
    by_cases e : l[i] = x
    · have e3 : l.findIdx (fun y => decide (y = x)) = i := by
        refine (List.findIdx_eq hi).2 ⟨by simp [e], fun j hj => ?_⟩
        have : l[j] ∈ l.take i := List.mem_take_iff_getElem.2 ⟨j, by omega, rfl⟩
        exact decide_eq_false (ho _ this)
      unfold placeW
      rw [if_pos ((hasW_iff l x).2 (e ▸ List.getElem_mem hi)), e3]
      exact Ev.pos ((tl_eq _ _).2 e) (Ev.pure _)
    · refine Ev.neg (fun h2 => e ((tl_eq _ _).1 h2)) ?_
      rw [wnext i (by omega)]
      refine ih (i + 1) (by omega) (fun y hm => ?_)
      rw [List.take_succ_eq_append_getElem hi] at hm
      rcases List.mem_append.1 hm with hm | hm
      · exact ho y hm
      · rw [List.mem_singleton.1 hm]; exact e
theorem place_ev (l : List ByteArray) (x : ByteArray) (hl : l.length ≤ 4294967296) : Ev (fun k => spec_l2Place.f k l x) (placeW l x) := by
  unfold spec_l2Place.f
  exact place_l0 l x hl l.length 0 (by omega) (fun w hw => by cases hw)
theorem of_l2 (ws : List ByteArray) (ho : ∀ w ∈ ws, okWord w) (hl : ws.length ≤ 1000000) : ∀ (n i : Nat), i + n = (prefW ws).length → Ev (fun k => spec_l2Of.l2 k ws (prefW ws) (i : Int) ((trieW ws).take i)) (trieW ws) := by
  have hle := prefW_le ws (fun w hw => (ho w hw).1)
  intro n
  induction n with
  | zero =>
    intro i h
    refine Ev.succ ?_
    simp only [spec_l2Of.l2]
    rw [List.take_of_length_le (by rw [trieW_length]; omega)]
    exact Ev.neg (by omega) (Ev.pure _)
  | succ n ih =>
    intro i h
    refine Ev.succ ?_
    simp only [spec_l2Of.l2]
    have hi : i < (prefW ws).length := by omega
    have hi2 : i < (trieW ws).length := by rw [trieW_length]; exact hi
    have hlt : ((trieW ws).take i).length = i := by rw [List.length_take]; omega
    refine Ev.pos (by omega) (Ev.pos (by omega) (Ev.bind (has_ev ws _ (by omega)) ?_))
    have hq := ih (i + 1) (by omega)
    rw [List.take_succ_eq_append_getElem hi2, trieW_at ws hi] at hq
    obtain ⟨p, hp⟩ : ∃ p, p = rdOf ByteArray.empty (prefW ws) (i : Int) := ⟨_, rfl⟩
    rw [← hp] at hq ⊢
    have hm : p ∈ prefW ws := by rw [hp, rd_nat _ hi]; exact List.getElem_mem hi
    have hsz := (prefW_ok ho hm).1
    by_cases h0 : 0 < i
    · have hz := prefW_nonzero ws h0 hi
      rw [← hp] at hz
      have e1 : wrap64 ((p.size : Int) - 1) = ((p.size - 1 : Nat) : Int) := by unfold wrap64; omega
      rw [e1]
      refine Ev.pos (by omega) (Ev.pos (by omega) (Ev.pos (by omega) (Ev.pos (by omega) (Ev.bind (place_ev _ _ (by omega)) (Ev.pos (by omega) ?_)))))
      rw [wnext i (by omega)]
      have e2 : (⟨(bt p ((p.size - 1 : Nat) : Int) - 97) % 256, placeW (prefW ws) (p.extract 0 (((p.size - 1 : Nat) : Int)).toNat), hasW ws p⟩ : IN) = nodeW (prefW ws) ws p := by
        unfold nodeW placeW
        rw [if_neg hz, Int.toNat_natCast, if_pos ((hasW_iff _ _).2 (prefW_closed hm))]
        have e3 : ((p.size - 1 : Nat) : Int) = (p.size : Int) - 1 := by omega
        rw [e3]
        congr 1
        omega
      rw [e2]
      exact hq
    · have hi0 : i = 0 := by omega
      have hz : p.size = 0 := by
        rw [hp, hi0]
        have := prefW_zero ws
        rw [show ((0 : Nat) : Int) = 0 from rfl, this]; rfl
      rw [node_root hz] at hq
      refine Ev.neg (by omega) (Ev.pos (by omega) ?_)
      rw [wnext i (by omega)]
      exact hq
theorem pfx_le (w : ByteArray) (n : Nat) (x : ByteArray) (h : x ∈ pfx w n) : x.size ≤ w.size := by
  obtain ⟨j, _, rfl⟩ := List.mem_map.1 h
  rw [ByteArray.size_extract]; omega
theorem allPfx_size {ws : List ByteArray} (ho : ∀ w ∈ ws, okWord w) {x : ByteArray} (h : x ∈ allPfx ws) : x.size ≤ 12 := by
  unfold allPfx at h
  rcases List.mem_cons.1 h with rfl | h
  · exact Nat.zero_le _
  · obtain ⟨w, hw, hx⟩ := List.mem_flatMap.1 h
    exact Nat.le_trans (pfx_le w _ x hx) (ho w hw).1
theorem of_l0 (ws : List ByteArray) (ho : ∀ w ∈ ws, okWord w) (hl : ws.length ≤ 1000000) : ∀ (n i : Nat), i + n = ws.length → Ev (fun k => spec_l2Of.l0 k ws (setW (allPfx (ws.take i))) (i : Int)) (trieW ws) := by
  intro n
  induction n with
  | zero =>
    intro i h
    refine Ev.succ ?_
    simp only [spec_l2Of.l0]
    rw [List.take_of_length_le (by omega)]
    refine Ev.neg (by omega) ?_
    have := of_l2 ws ho hl (prefW ws).length 0 (by omega)
    exact this
  | succ n ih =>
    intro i h
    have hi : i < ws.length := by omega
    have hok := ho _ (List.getElem_mem hi)
    refine Ev.succ ?_
    simp only [spec_l2Of.l0]
    refine Ev.pos (by omega) ?_
    have hot : ∀ w ∈ ws.take i, okWord w := fun w hw => ho w (List.mem_of_mem_take hw)
    have hal := allPfx_len (ws.take i) (fun w hw => (hot w hw).1)
    rw [List.length_take] at hal
    have key : ∀ (m j : Nat), j + m = ws[i].size → Ev (fun k => spec_l2Of.l1 k ws (setW (allPfx (ws.take i) ++ pfx ws[i] j)) (i : Int) ((j : Int) + 1)) (trieW ws) := by
      intro m
      induction m with
      | zero =>
        intro j hj
        refine Ev.succ ?_
        simp only [spec_l2Of.l1, rd_nat ws hi]
        refine Ev.pos (by omega) (Ev.pos (by omega) (Ev.neg (by omega) ?_))
        rw [wnext i (by omega)]
        have hq := ih (i + 1) (by omega)
        rw [allPfx_take ws i hi, rd_nat ws hi] at hq
        have : j = ws[i].size := by omega
        rw [this]
        exact hq
      | succ m ihm =>
        intro j hj
        refine Ev.succ ?_
        simp only [spec_l2Of.l1, rd_nat ws hi]
        have h12 := hok.1
        have hln := setW_len (allPfx (ws.take i) ++ pfx ws[i] j)
        rw [List.length_append, pfx_length] at hln
        refine Ev.pos (by omega) (Ev.pos (by omega) (Ev.pos (by omega) (Ev.pos (by omega) (Ev.bind (put_ev _ _ (by omega) (fun x hx => ?_) (setW_ss _)) ?_))))
        · rcases List.mem_append.1 (mem_setW.1 hx) with hx | hx
          · have := allPfx_size hot hx; omega
          · have := pfx_le _ _ _ hx; omega
        · have e1 : wrap64 ((j : Int) + 1 + 1) = ((j + 1 : Nat) : Int) + 1 := by unfold wrap64; omega
          have e2 : ((j : Int) + 1).toNat = j + 1 := by omega
          rw [e1, e2, setW_cons_set, List.append_assoc, ← pfx_succ]
          exact ihm (j + 1) (by omega)
    have := key ws[i].size 0 (by omega)
    have e : pfx ws[i] 0 = [] := rfl
    rw [e, List.append_nil] at this
    exact this
theorem of_ev (ws : List ByteArray) (ho : ∀ w ∈ ws, okWord w) (hl : ws.length ≤ 1000000) : Ev (fun k => spec_l2Of.f k ws) (trieW ws) := by
  unfold spec_l2Of.f
  have := of_l0 ws ho hl ws.length 0 (by omega)
  have e : setW (allPfx (ws.take 0)) = [⟨#[]⟩] := ss_ext (setW_ss _) (List.pairwise_singleton _ _) (fun x => by rw [mem_setW]; exact Iff.rfl)
  rw [e] at this
  exact this
end Go.Proofs.YtcgcicngfemnlaaGreatDoor.Q
namespace Go.Proofs.YtcgcicngfemnlaaGreatDoor.Q
open Go.RowKit Go.Proofs.YtcgcicngfemnlaaGreatDoorW.PrintWords Go.Proofs.YtcgcicngfemnlaaGreatDoorW.PrintLast
def qm : ByteArray := ⟨#[63]⟩
def prefX : Nat → List IN → Int → ByteArray → ByteArray
  | 0, _, node, s => if node = 0 then s else qm
  | n + 1, l, node, s =>
    if node > 0 then
      (if 0 ≤ (rd_T83 l node).f0 ∧ (rd_T83 l node).f0 ≤ 25 then
        (if (rd_T83 l node).f1 ≥ node then qm else prefX n l (rd_T83 l node).f1 (letterW (rd_T83 l node).f0 ++ s)) else qm)
    else if node = 0 then s else qm
theorem prefix_l0 (l : List IN) : ∀ (n : Nat) (node : Int) (s : ByteArray), node < l.length → s.size + n = 13 → Ev (fun k => spec_l2Prefix.l0 k node s l) (prefX n l node s) := by
  intro n
  induction n with
  | zero =>
    intro node s hn hs
    refine Ev.succ ?_
    simp only [spec_l2Prefix.l0, prefX]
    have key : Ev (fun k => spec_l2Prefix.j1 k node s false l) (if node = 0 then s else qm) := by
      refine Ev.succ ?_
      simp only [spec_l2Prefix.j1]
      refine Ev.neg (by decide) ?_
      by_cases h0 : node = 0
      · rw [if_pos h0, if_pos h0]; exact Ev.pure _
      · rw [if_neg h0, if_neg h0]; exact Ev.pure _
    have e : decide ((s.size : Int) ≤ 12) = false := decide_eq_false (by omega)
    rw [e]
    by_cases h : node > 0
    · exact Ev.pos h key
    · exact Ev.neg h key
  | succ n ih =>
    intro node s hn hs
    refine Ev.succ ?_
    simp only [spec_l2Prefix.l0, prefX]
    by_cases h : node > 0
    · rw [if_pos h]
      refine Ev.pos h (Ev.succ ?_)
      simp only [spec_l2Prefix.j1, l1In_eq, Option.bind_some]
      refine Ev.pos (decide_eq_true (by omega)) (Ev.pos (by omega) (Ev.pos hn ?_))
      by_cases h2 : 0 ≤ (rd_T83 l node).f0 ∧ (rd_T83 l node).f0 ≤ 25
      · rw [if_pos h2]
        refine Ev.pos (decide_eq_true h2) ?_
        by_cases h3 : (rd_T83 l node).f1 ≥ node
        · rw [if_pos h3]; exact Ev.pos h3 (Ev.pure _)
        · rw [if_neg h3]
          have hls := letterW_size (rd_T83 l node).f0
          unfold letterW at hls
          refine Ev.neg h3 (Ev.pos (by rw [hls]; omega) ?_)
          refine ih _ _ (by omega) ?_
          rw [size_app, hls]
          omega
      · rw [if_neg h2]
        exact Ev.neg (fun hf => h2 (of_decide_eq_true hf)) (Ev.pure _)
    · rw [if_neg h]
      refine Ev.neg h (Ev.succ ?_)
      simp only [spec_l2Prefix.j1]
      refine Ev.neg (by decide) ?_
      by_cases h0 : node = 0
      · rw [if_pos h0, if_pos h0]; exact Ev.pure _
      · rw [if_neg h0, if_neg h0]; exact Ev.pure _
theorem prefix_ev (l : List IN) (node : Int) (h : node < l.length) : Ev (fun k => spec_l2Prefix.f k l node) (prefX 13 l node ByteArray.empty) := by
  unfold spec_l2Prefix.f
  exact prefix_l0 l 13 node ByteArray.empty h rfl
def wordsX (l : List IN) : List Nat → List ByteArray
  | [] => []
  | i :: r => if (rd_T83 l (i : Int)).f2 = true then prefX 13 l (i : Int) ByteArray.empty :: wordsX l r else wordsX l r
theorem words_l0X (l : List IN) (hl : l.length ≤ 1048576) : ∀ (n i : Nat) (acc : List ByteArray), i + n = l.length → acc.length ≤ i → Ev (fun k => spec_l2Words.l0 k acc (i : Int) l) (acc ++ wordsX l (List.range' i n)) := by
  intro n
  induction n with
  | zero =>
    intro i acc h ha
    refine Ev.succ ?_
    simp only [spec_l2Words.l0, List.range'_zero, wordsX, List.append_nil]
    exact Ev.neg (by omega) (Ev.pure _)
  | succ n ih =>
    intro i acc h ha
    refine Ev.succ ?_
    simp only [spec_l2Words.l0, List.range'_succ, wordsX]
    refine Ev.pos (by omega) (Ev.pos (by omega) ?_)
    rw [wnext i (by omega)]
    by_cases e : (rd_T83 l (i : Int)).f2 = true
    · rw [if_pos e]
      refine Ev.pos e (Ev.bind (prefix_ev l (i : Int) (by omega)) (Ev.pos (by omega) ?_))
      have := ih (i + 1) (acc ++ [prefX 13 l (i : Int) ByteArray.empty]) (by omega) (by simp; omega)
      simpa using this
    · rw [if_neg e]
      exact Ev.neg e (ih (i + 1) acc (by omega) (by omega))
def wordsS (l : List IN) : List ByteArray := wordsX l (List.range' 0 l.length)
theorem wordsS_ev (l : List IN) (hl : l.length ≤ 1048576) : Ev (fun k => spec_l2Words.f k l) (wordsS l) := by
  unfold spec_l2Words.f
  have := words_l0X l hl l.length 0 [] (by omega) (Nat.le_refl _)
  simpa [wordsS] using this
theorem wordsX_length (l : List IN) : ∀ r, (wordsX l r).length ≤ r.length
  | [] => Nat.le_refl _
  | i :: r => by
    have := wordsX_length l r
    simp only [wordsX]
    split <;> simp <;> omega
theorem prefX_trie (ws : List ByteArray) (ho : ∀ w ∈ ws, okWord w) : ∀ (n i : Nat) (s : ByteArray), i < (prefW ws).length → (rdOf ByteArray.empty (prefW ws) (i : Int)).size < n → prefX n (trieW ws) (i : Int) s = rdOf ByteArray.empty (prefW ws) (i : Int) ++ s := by
  intro n
  induction n with
  | zero => intro i s _ h; exact absurd h (Nat.not_lt_zero _)
  | succ n ih =>
    intro i s hi hs
    simp only [prefX]
    by_cases h0 : 0 < i
    · have hi2 : i < (trieW ws).length := by rw [trieW_length]; exact hi
      rw [if_pos (by omega), rd_nat' _ i hi2, trieW_at ws hi]
      obtain ⟨j, hj, e0, e1, e2, e3, e4⟩ := node_at ws ho h0 hi
      rw [if_pos ⟨e2, e3⟩, e1, if_neg (by omega), ih j _ (by omega) ?_]
      · apply lw_inj
        rw [lw_app, lw_app, ← List.append_assoc, ← lw_app, e4, lw_app]
      · rw [e0, ByteArray.size_extract]
        have := prefW_nonzero ws h0 hi
        omega
    · obtain rfl : i = 0 := by omega
      rw [if_neg (by omega), if_pos (by omega)]
      have := prefW_zero ws
      rw [show ((0 : Nat) : Int) = 0 from rfl, this]
      apply lw_inj
      rw [lw_app]; rfl
theorem app_empty (a : ByteArray) : a ++ ByteArray.empty = a := lw_inj (by rw [lw_app]; exact List.append_nil _)
theorem prefX_trie13 {ws : List ByteArray} (ho : ∀ w ∈ ws, okWord w) {i : Nat} (hi : i < (prefW ws).length) : prefX 13 (trieW ws) (i : Int) ByteArray.empty = rdOf ByteArray.empty (prefW ws) (i : Int) := by
  have hm : rdOf ByteArray.empty (prefW ws) (i : Int) ∈ prefW ws := by rw [rd_nat _ hi]; exact List.getElem_mem hi
  have := (prefW_ok ho hm).1
  rw [prefX_trie ws ho 13 i _ hi (by omega), app_empty]
theorem wordsX_trie {ws : List ByteArray} (ho : ∀ w ∈ ws, okWord w) : ∀ (n i : Nat), i + n = (prefW ws).length → wordsX (trieW ws) (List.range' i n) = ((prefW ws).drop i).filter fun p => hasW ws p := by
  intro n
  induction n with
  | zero =>
    intro i h
    rw [List.drop_of_length_le (by omega)]
    rfl
  | succ n ih =>
    intro i h
    have hi : i < (prefW ws).length := by omega
    have hi2 : i < (trieW ws).length := by rw [trieW_length]; exact hi
    rw [List.range'_succ, List.drop_eq_getElem_cons hi, List.filter_cons]
    simp only [wordsX]
    rw [rd_nat' _ i hi2, trieW_at ws hi, prefX_trie13 ho hi, ih (i + 1) (by omega), rd_nat _ hi]
    have e : (nodeW (prefW ws) ws (prefW ws)[i]).f2 = hasW ws (prefW ws)[i] := by unfold nodeW; split <;> rfl
    rw [e]
theorem wordsS_trie {ws : List ByteArray} (h : VW ws) : wordsS (trieW ws) = ws := by
  unfold wordsS
  rw [trieW_length, wordsX_trie h.ok _ 0 (by omega), List.drop_zero, filter_ws h.ss]
def isTrieS (l : List IN) : Bool := decide (1 ≤ l.length ∧ l.length ≤ 481) && ((setRes (wordsS l)).2 && decide (trieW (setRes (wordsS l)).1 = l))
theorem trieS_ev (l : List IN) : Ev (fun k => spec_l2Trie.f k l) (isTrieS l) := by
  unfold spec_l2Trie.f isTrieS
  simp only [l1In_eq, Option.bind_some]
  by_cases h : 1 ≤ l.length ∧ l.length ≤ 481
  · rw [decide_eq_true h, Bool.true_and]
    have hwl := wordsX_length l (List.range' 0 l.length)
    rw [List.length_range'] at hwl
    refine Ev.pos (decide_eq_true (by omega)) (Ev.bind (wordsS_ev l (by omega)) (Ev.bind (set_ev _ (by unfold wordsS; omega)) ?_))
    by_cases h2 : (setRes (wordsS l)).2 = true
    · rw [h2, Bool.true_and]
      refine Ev.pos rfl ?_
      have hok : ∀ w ∈ wordsS l, okWord w := by
        unfold setRes at h2
        split at h2
        · assumption
        · cases h2
      have e1 : (setRes (wordsS l)).1 = setW (wordsS l) := by unfold setRes; rw [if_pos hok]
      rw [e1]
      have hok2 : ∀ w ∈ setW (wordsS l), okWord w := fun w hw => hok w (mem_setW.1 hw)
      have hl2 := setW_len (wordsS l)
      have hl3 : (wordsS l).length ≤ l.length := hwl
      have hle := prefW_le (setW (wordsS l)) (fun w hw => (hok2 w hw).1)
      exact Ev.bind (of_ev _ hok2 (by omega)) (Ev.bind (same_ev _ _ (by rw [trieW_length]; omega)) (Ev.pure _))
    · rw [Bool.not_eq_true] at h2
      rw [h2, Bool.false_and]
      exact Ev.neg (by decide) (Ev.pure _)
  · rw [decide_eq_false h, Bool.false_and]
    exact Ev.neg (fun hf => h (by have := of_decide_eq_true hf; omega)) (Ev.pure _)
theorem isTrieS_iff (l : List IN) : isTrieS l = true ↔ V l := by
  constructor
  · intro h
    unfold isTrieS at h
    simp only [Bool.and_eq_true, decide_eq_true_eq] at h
    obtain ⟨_, h2, h3⟩ := h
    unfold setRes at h2 h3
    split at h2
    · rename_i hok
      rw [if_pos hok] at h3
      simp only [decide_eq_true_eq] at h2
      exact ⟨_, ⟨setW_ss _, fun w hw => hok w (mem_setW.1 hw), by omega⟩, h3.symm⟩
    · cases h2
  · rintro ⟨ws, h, rfl⟩
    unfold isTrieS
    have h1 := prefW_pos ws
    have h2 := prefW_le ws (fun w hw => (h.ok w hw).1)
    have h3 := h.len
    have e : setRes (wordsS (trieW ws)) = (ws, true) := by
      rw [wordsS_trie h]
      unfold setRes
      rw [if_pos h.ok, setW_of_ss h.ss, decide_eq_true (by omega)]
    rw [e, trieW_length]
    simp
    omega
theorem trie_same (l : List IN) : isTrieS l = isTrieW l := by rw [Bool.eq_iff_iff, isTrieS_iff, isTrieW_iff]
end Go.Proofs.YtcgcicngfemnlaaGreatDoor.Q
namespace Go.Proofs.YtcgcicngfemnlaaGreatDoor.Q
open Go.RowKit Go.Proofs.YtcgcicngfemnlaaGreatDoorW.PrintWords Go.Proofs.YtcgcicngfemnlaaGreatDoorW.PrintLast
theorem trie_cases (l : List IN) : isTrieW l = false ∨ ∃ ws, VW ws ∧ l = trieW ws ∧ isTrieW l = true := by
  cases h : isTrieW l with
  | false => exact .inl rfl
  | true => obtain ⟨ws, hv, e⟩ := (isTrieW_iff l).1 h; exact .inr ⟨ws, hv, e, rfl⟩
theorem specT (l : List IN) {b : Bool} (h : isTrieW l = b) : Ev (fun k => spec_l2Trie.f k l) b := by rw [← h, ← trie_same]; exact trieS_ev l
theorem implT (l : List IN) {b : Bool} (h : isTrieW l = b) : Ev (fun k => impl_isTrie.f k l) b := h ▸ isTrie_ev l
theorem trie_le {ws : List ByteArray} (h : VW ws) : (trieW ws).length ≤ 481 := by
  have h2 := prefW_le ws (fun w hw => (h.ok w hw).1)
  have h3 := h.len
  rw [trieW_length]
  omega
theorem specWords {ws : List ByteArray} (h : VW ws) : Ev (fun k => spec_l2Words.f k (trieW ws)) ws := by
  have := wordsS_ev (trieW ws) (by have := trie_le h; omega)
  rwa [wordsS_trie h] at this
theorem implWords {ws : List ByteArray} (h : VW ws) : Ev (fun k => impl_Trie_words.f k (trieW ws)) ws := by
  have := words_ev (trieW ws) _ (prefixesW_trie h)
  rwa [wordsW_trie h.ss] at this
end Go.Proofs.YtcgcicngfemnlaaGreatDoor.Q
namespace Go.Proofs.YtcgcicngfemnlaaGreatDoor.Q
open Go.RowKit Go.Sort Go.Shelf Go.Proofs.YtcgcicngfemnlaaGreatDoorW.PrintWords Go.Proofs.YtcgcicngfemnlaaGreatDoorW.PrintLast Go.Proofs.YtcgcicngfemnlaaGreatDoorW.PrintMore
set_option linter.unusedVariables false
set_option linter.unusedSimpArgs false
def NoHit (l : List ByteArray) (p : ByteArray → Bool) (m : Nat) : Prop := ∀ j, j < m → p (rdOf ByteArray.empty l (j : Int)) = false
def Hit (l : List ByteArray) (p : ByteArray → Bool) (i : Int) : Prop := (i = -1 ∧ NoHit l p l.length) ∨ ∃ m : Nat, i = (m : Int) ∧ m < l.length ∧ p (rdOf ByteArray.empty l (m : Int)) = true ∧ NoHit l p m
theorem any_noHit {l : List ByteArray} {p : ByteArray → Bool} (h : NoHit l p l.length) : l.any p = false := by
  rw [List.any_eq_false]
  intro x hx
  obtain ⟨j, hj, rfl⟩ := List.getElem_of_mem hx
  have := h j hj
  simp [rdOf, hj] at this
  simp [this]
theorem any_ofHit {l : List ByteArray} {p : ByteArray → Bool} {m : Nat} (hm : m < l.length) (h : p (rdOf ByteArray.empty l (m : Int)) = true) : l.any p = true := by
  rw [List.any_eq_true]
  refine ⟨l[m], List.getElem_mem hm, ?_⟩
  simpa [rdOf, hm] using h
theorem Hit.any {l : List ByteArray} {p : ByteArray → Bool} {i : Int} (h : Hit l p i) : decide (0 ≤ i) = l.any p := by
  rcases h with ⟨rfl, h⟩ | ⟨m, rfl, hm, h, _⟩
  · rw [any_noHit h]; rfl
  · rw [any_ofHit hm h]; simp
end Go.Proofs.YtcgcicngfemnlaaGreatDoor.Q
namespace Go.Proofs.YtcgcicngfemnlaaGreatDoor.Q
open Go.RowKit Go.Sort Go.Shelf Go.Proofs.YtcgcicngfemnlaaGreatDoorW.PrintWords Go.Proofs.YtcgcicngfemnlaaGreatDoorW.PrintLast Go.Proofs.YtcgcicngfemnlaaGreatDoorW.PrintMore
set_option linter.unusedVariables false
def srtI (zs : List Int) : List Int := zs.mergeSort fun x y => decide (x ≤ y)
end Go.Proofs.YtcgcicngfemnlaaGreatDoor.Q
namespace Go.Proofs.YtcgcicngfemnlaaGreatDoor.Q
open Go.RowKit Go.Sort Go.Shelf Go.Proofs.YtcgcicngfemnlaaGreatDoorW.PrintWords Go.Proofs.YtcgcicngfemnlaaGreatDoorW.PrintLast Go.Proofs.YtcgcicngfemnlaaGreatDoorW.PrintMore
set_option linter.unusedVariables false
def stP (s x : ByteArray) : Bool := decide (x.size ≠ 0) && begW s x
def rowS (ws : List ByteArray) (s : ByteArray) : List Int := (ws.filter (stP s)).map fun x => (x.size : Int)
def rowAt (ws : List ByteArray) (p : ByteArray) (j : Nat) : List Int := srtI (rowS ws (p.extract j p.size))
def standW (ws : List ByteArray) (p : ByteArray) : List (List Int) := (List.range (p.size + 1)).map (rowAt ws p)
structure Std (G N : Nat) (ws : List ByteArray) (p : ByteArray) (W : World) (cs : List Value) (n : Nat) : Prop where
  box : W.heap[G]? = some (.cells cs.toArray 38 (0, 0))
  len : cs.length = N
  done : ∀ j, j < n → j < N → Kd.R (Kd.int .i64) 3 W (G + 1) (fun _ => True) (cs.getD j undef) (rowAt ws p j)
  rest : ∀ j, n ≤ j → j < N → cs.getD j undef = .slice none 0 0
  apart : ∀ i j k, i < j → j < n → j < N → (cs.getD j undef).ownBlock = some k → (cs.getD i undef).ownBlock ≠ some k
theorem Std.all {G : Nat} {ws : List ByteArray} {p : ByteArray} {W : World} {cs : List Value} {base : Nat} (h : Std G (p.size + 1) ws p W cs (p.size + 1)) (hbase : base ≤ G) (hp : p.size ≤ 60) : Kd.S (Kd.slice 3 (Kd.int .i64)) 38 W base (fun _ => True) (.slice (some ⟨G, 0, none⟩) (p.size + 1) (p.size + 1)) (standW ws p) := by
  have hl : (standW ws p).zipIdx.length = p.size + 1 := by simp [standW]
  have hc := h.len
  refine ⟨fun k => cs.findIdx fun v => decide (v.ownBlock = some k), fun _ _ => trivial, cs, ?_, ?_⟩
  · rw [hl]
    exact ⟨by show cs.length = (p.size + 1) * 1; omega, .inr ⟨G, p.size + 1, cs.toArray, rfl, hbase, h.box, Nat.le_refl _, by unfold maxLen; omega, by show cs.toArray.size = (p.size + 1) * 1; simp [hc], by show cs.toArray.toList.take ((p.size + 1) * 1) = cs; rw [Nat.mul_one, ← hc]; simp⟩⟩
  · refine ⟨by show cs.length = _ * 1; rw [hl, hc, Nat.mul_one], fun j q hj => ?_⟩
    have hjl : j < p.size + 1 := by
      have := (List.getElem?_eq_some_iff.1 hj).1
      omega
    have e : (rowAt ws p j, j) = q := by
      rw [List.getElem?_zipIdx, Nat.zero_add] at hj
      simpa [standW, hjl] using hj
    subst e
    have hd := h.done j hjl hjl
    have hcj : j < cs.length := by rw [hc]; exact hjl
    have e : cs.getD j undef = cs[j] := by rw [List.getD_eq_getElem?_getD, List.getElem?_eq_getElem hcj]; rfl
    refine ⟨cs.getD j undef, ?_, ?_⟩
    · show (cs.drop (j * 1)).take 1 = _
      rw [Nat.mul_one, List.drop_eq_getElem_cons hcj, e]
      rfl
    · refine Kd.R_lower (Kd.R_of_own (Kd.own_of_R hd) fun k hk => ⟨⟨trivial, fun e2 => ?_⟩, ?_⟩) (by omega)
      · have h3 := (Kd.R_bound hd).1 k hk
        have e3 : G = k := by simpa [Value.ownBlock] using e2.symm
        omega
      · show (cs.findIdx fun v => decide (v.ownBlock = some k)) = j
        rw [List.findIdx_eq hcj]
        refine ⟨by rw [← e]; exact decide_eq_true hk, fun i hi => ?_⟩
        have hci : i < cs.length := by omega
        have ei : cs.getD i undef = cs[i] := by rw [List.getD_eq_getElem?_getD, List.getElem?_eq_getElem hci]; rfl
        rw [← ei]
        exact decide_eq_false (h.apart i j k hi hjl hjl hk)
end Go.Proofs.YtcgcicngfemnlaaGreatDoor.Q
namespace Go.Proofs.YtcgcicngfemnlaaGreatDoor.Q
open Go.RowKit Go.Proofs.YtcgcicngfemnlaaGreatDoorW.PrintWords Go.Proofs.YtcgcicngfemnlaaGreatDoorW.PrintLast
def lwD (b : ByteArray) : List UInt8 := b.data.toList
def lettersD (w : ByteArray) : Prop := ∀ x ∈ lwD w, 97 ≤ x.toNat ∧ x.toNat ≤ 122
def okWordD (w : ByteArray) : Prop := w.size ≤ 12 ∧ lettersD w
instance (w : ByteArray) : Decidable (lettersD w) := inferInstanceAs (Decidable (∀ x ∈ lwD w, 97 ≤ x.toNat ∧ x.toNat ≤ 122))
instance (w : ByteArray) : Decidable (okWordD w) := inferInstanceAs (Decidable (w.size ≤ 12 ∧ lettersD w))
theorem lettersB_D (w : ByteArray) : lettersB w = decide (lettersD w) := by
  rw [Bool.eq_iff_iff, decide_eq_true_eq]
  unfold lettersB lettersD lwD
  rw [List.all_eq_true]
  exact forall_congr' fun x => imp_congr Iff.rfl decide_eq_true_iff
end Go.Proofs.YtcgcicngfemnlaaGreatDoor.Q
namespace Go.Proofs.YtcgcicngfemnlaaGreatDoor.Q
open Go.ChangeShapes Go.WideShapes Go.Deep Go.RowKit Go.Proofs.YtcgcicngfemnlaaGreatDoorW.PrintWords Go.Proofs.YtcgcicngfemnlaaGreatDoorW.PrintLast Go.Proofs.YtcgcicngfemnlaaGreatDoorW.PrintMore
def I64 (n : Int) : Prop := -9223372036854775808 ≤ n ∧ n ≤ 9223372036854775807
theorem I64_of {n : Int} (h : (Lit.int .i64 n).wf = true) : I64 n := by
  have h1 : IntKind.i64.min = -9223372036854775808 := by decide
  simp [Lit.wf, h1] at h
  exact h
set_option maxRecDepth 100000 in
theorem open_trie {H : Type} {enc : TypeId × Value → H} {w : World} {base b0 : Nat} {spare : Nat → Bool} {held : Bool} {r : Reach} {v : Value} {d : DataW H} {p : List MemPlace} (hv : Value.okWide Tryz.prog w r b0 24 v) (h : DataW.Trod enc Tryz.prog w base spare held 24 v d p) :
    ∃ (A : Option Addr) (c : Nat) (l : List S88), v = .agg #[.slice A l.length c] ∧ Kd.C k88 w A l.length l ∧ l.length ≤ c ∧ l.length ≤ maxLen ∧ ∀ x ∈ l, I64 x.f0 ∧ I64 x.f1 := by
  obtain ⟨cs, rfl, hsz⟩ := okWide_struct Tryz.underlying24 hv
  have hct : Tryz.prog.cellsOf 24 = 1 := by kernel_rfl
  have hsz1 : cs.size = 1 := hsz.trans hct
  obtain ⟨c0, rfl⟩ : ∃ c0, cs = #[c0] := ⟨cs[0], by
    apply Array.ext
    · simp [hsz1]
    · intro i h1 h2
      have : i = 0 := by omega
      subst this; rfl⟩
  obtain ⟨fuel, hf⟩ := h
  obtain ⟨xs, n, _, hx, _, hlen, hg⟩ := DataW.trod_struct Tryz.underlying24 hf
  have h0 := hg 0 _ rfl
  have hc1 : Tryz.prog.cellsOf 22 = 1 := by kernel_rfl
  simp only [Value.cells, List.drop_zero, hc1] at h0
  have h0' : DataW.trod enc Tryz.prog w base spare held n 22 [c0] = xs[0]? := h0
  rw [List.getElem?_eq_getElem (show 0 < xs.length by rw [hlen]; decide)] at h0'
  have hC : Tryz.prog.cellsOf 88 = 3 := by kernel_rfl
  have i1 : Tryz.prog.cellsOf 3 = 1 := by kernel_rfl
  have i2 : Tryz.prog.cellsOf 4 = 1 := by kernel_rfl
  rcases open_slice Tryz.underlying22 h0' with ⟨e, _⟩ | ⟨a, len, cap, m, n', D, Pl, e, _, hl, hm, hmm, _, hi⟩
  · injection e with e
    subst e
    exact ⟨none, 0, [], rfl, ⟨rfl, by decide, fun h => absurd h (by decide)⟩, Nat.le_refl _, Nat.zero_le _, fun x hx => by cases hx⟩
  · injection e with e
    subst e
    have hlm : len ≤ m := by rw [hmm]; split <;> omega
    have hex : ∀ i, i < len → ∃ x : S88, I64 x.f0 ∧ I64 x.f1 ∧ ∀ j u, [Value.int .i64 x.f0, .int .i64 x.f1, .bool x.f2][j]? = some u → w.cell? (a.add (i * 3 + j)) = some u := by
      intro i hil
      obtain ⟨cs', hc, ht'⟩ := hi i (by omega)
      rw [hC] at hc
      obtain ⟨ys, n2, _, _, hcl, hyl, hfl⟩ := DataW.trod_struct Tryz.underlying88 ht'
      obtain ⟨_, hcl3, hat⟩ := World.cells?_some hc
      have f0 := hfl 0 _ rfl
      have f1 := hfl 1 _ rfl
      have f2 := hfl 2 _ rfl
      rw [hC] at hcl
      obtain ⟨u0, u1, u2, rfl⟩ : ∃ u0 u1 u2, cs' = [u0, u1, u2] := by
        match cs', hcl with
        | [u0, u1, u2], _ => exact ⟨u0, u1, u2, rfl⟩
      replace f0 : DataW.trod enc Tryz.prog w base spare held n2 3 ((List.drop 0 [u0, u1, u2]).take (Tryz.prog.cellsOf 3)) = ys[0]? := f0
      rw [i1] at f0
      replace f0 : DataW.trod enc Tryz.prog w base spare held n2 3 [u0] = ys[0]? := f0
      replace f1 : DataW.trod enc Tryz.prog w base spare held n2 3 ((List.drop 1 [u0, u1, u2]).take (Tryz.prog.cellsOf 3)) = ys[1]? := f1
      rw [i1] at f1
      replace f1 : DataW.trod enc Tryz.prog w base spare held n2 3 [u1] = ys[1]? := f1
      replace f2 : DataW.trod enc Tryz.prog w base spare held n2 4 ((List.drop 2 [u0, u1, u2]).take (Tryz.prog.cellsOf 4)) = ys[2]? := f2
      rw [i2] at f2
      replace f2 : DataW.trod enc Tryz.prog w base spare held n2 4 [u2] = ys[2]? := f2
      rw [List.getElem?_eq_getElem (show 0 < ys.length by rw [hyl]; decide)] at f0
      rw [List.getElem?_eq_getElem (show 1 < ys.length by rw [hyl]; decide)] at f1
      rw [List.getElem?_eq_getElem (show 2 < ys.length by rw [hyl]; decide)] at f2
      obtain ⟨x0, e0, _, w0⟩ := DataW.trod_int Tryz.underlying3 f0
      obtain ⟨x1, e1, _, w1⟩ := DataW.trod_int Tryz.underlying3 f1
      obtain ⟨x2, e2, _⟩ := DataW.trod_bool Tryz.underlying4 f2
      injection e0 with e0
      injection e1 with e1
      injection e2 with e2
      subst e0; subst e1; subst e2
      refine ⟨⟨x0, x1, x2⟩, I64_of w0, I64_of w1, fun j u hj => ?_⟩
      obtain ⟨hj3, hju⟩ := List.getElem?_eq_some_iff.1 hj
      rw [← Go.Deep.add_add, hat j (show j < 3 from hj3)]
      exact hj
    obtain ⟨f, hf⟩ : ∃ f : Nat → S88, ∀ i, i < len → I64 (f i).f0 ∧ I64 (f i).f1 ∧ ∀ j u, [Value.int .i64 (f i).f0, .int .i64 (f i).f1, .bool (f i).f2][j]? = some u → w.cell? (a.add (i * 3 + j)) = some u :=
      ⟨fun i => if h : i < len then Classical.choose (hex i h) else ⟨0, 0, false⟩, fun i h => by simp only [h, dite_true]; exact Classical.choose_spec (hex i h)⟩
    have hfl : ((List.range len).map f).length = len := by simp
    refine ⟨some a, cap, (List.range len).map f, by rw [hfl], ?_, by rw [hfl]; exact hl, by rw [hfl]; omega, ?_⟩
    · rw [hfl]
      refine ⟨by simp, by unfold maxLen at hm; omega, fun _ => ⟨a, rfl, fun j p hj => ?_⟩⟩
      obtain ⟨hjl, rfl⟩ := List.getElem?_eq_some_iff.1 hj
      rw [hfl] at hjl
      refine ⟨_, rfl, k88_mk w _, fun i u hu => ?_⟩
      simp only [List.getElem_map, List.getElem_range] at hu
      exact (hf j hjl).2.2 i u hu
    · intro x hx
      obtain ⟨i, hi, rfl⟩ := List.mem_map.1 hx
      exact ⟨(hf i (List.mem_range.1 hi)).1, (hf i (List.mem_range.1 hi)).2.1⟩
end Go.Proofs.YtcgcicngfemnlaaGreatDoor.Q
