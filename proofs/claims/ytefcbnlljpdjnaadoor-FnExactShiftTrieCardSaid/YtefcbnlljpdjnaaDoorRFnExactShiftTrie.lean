/- The law FnExactShiftTrie: for every input the call answers true and leaves its arguments as they were. -/
import Derived.Test.YtefcbnlljpdjnaaDoorB0
import Derived.Test.YtefcbnlljpdjnaaDoorB1
import Derived.Test.YtefcbnlljpdjnaaDoorB2
import Derived.Test.YtefcbnlljpdjnaaDoorB3
import Derived.Test.YtefcbnlljpdjnaaDoorB4
import Derived.Test.YtefcbnlljpdjnaaDoorB6
import Derived.Test.YtefcbnlljpdjnaaDoorB7
import Derived.Test.YtefcbnlljpdjnaaDoorProg
import Derived.Below
import Derived.Deep.Draws
import Derived.Deep.AppendLies
import Derived.Maps.AppendAt
import Derived.OwnWalk
import Derived.Laws.BytesArg
import Derived.Laws.MakeOwn
import Derived.Laws.OwnMore
import Derived.Deep.OwnRows
import Derived.Tactics
import Derived.Lib.ConvBytes
import Derived.Laws.Slices
import Derived.WalkKit
import Derived.KernelRfl
import Derived.RowKit3
import Derived.Deep.LoopGhost
import Derived.Deep.QuietTactic
import Derived.BigQuiet
import Derived.WideLaws
import Derived.Deep.DeepCutAuto
import Derived.Deep.CutBlock
import Derived.Deep.RegionHeld3
import Derived.Laws.Rows
import Derived.Lib.AppendStr
import Derived.ArgAppend
import Derived.Laws.IdiomCopy
import Derived.OrdersHeld
import Derived.Laws.BitsLemmas
import Derived.RowKit
import Derived.Shelf.Strings.SlTrimAscii
import Derived.Ground.NamesProg
import Derived.Ground.SlgfProg
import Derived.Lib.SlicesCompact
import Derived.Maps.Own
import Derived.StringKeys
import Derived.Maps.OwnOps
import Derived.Maps.OwnSet
import Derived.Maps.Views
import Derived.Laws.AppendOwn
import Derived.Deep.DrawnRows
import Derived.Shelf.Sort.Plain
import Derived.Shelf.Slices.CompactS
import Derived.Shelf.Slices.In.SortNone
import Derived.RangeFuncBox
import Derived.RangeFuncLeaves
import Derived.Shelf.Abstract
import Derived.OwnWalkIn
import Derived.TacticsInMore
import Derived.LoopNIn
import Derived.LoopIn
import Derived.Lib.OwnBridge
import Derived.Sort.OwnSorted
import Derived.Sort.Grow
import Derived.Shelf.Strings.OnBuilder
import Derived.Sort.Walk0
import Derived.Lib.Strings
import Derived.Shelf.SlicesE.DeleteFunc
import Derived.Lib.SliceRun
import Derived.Lib.SlKept
import Derived.WalkSmall
import Derived.Deep.Slices
import Derived.Deep.Fields
import Derived.ChangeSame
import Derived.ChangeArms
import Derived.WideShapes
import Derived.Test.YtefcbnlljpdjnaaDoorRows
import Derived.Test.YtefcbnlljpdjnaaDoorTie
import Derived.Test.YtefcbnlljpdjnaaDoorCards
import Derived.ProofKit
import Derived.OpenShut
import Derived.ShutString
import Derived.ChangeOld
import Derived.SizedLaws
import Derived.Carry
import Derived.LaidMore
import Derived.Lay
import Derived.SevenTiedAt
import Derived.Stop.Joined
set_option linter.unusedVariables false
set_option linter.unusedSimpArgs false
namespace Go.Proofs.YtefcbnlljpdjnaaDoor.Q
open Go.RowKit Go.Proofs.YtefcbnlljpdjnaaDoorW.PrintWords Go.Proofs.YtefcbnlljpdjnaaDoorW.PrintLast
theorem l1In_t {a b c : Int} (h : b ≤ a ∧ a ≤ c) : spec_l1In.f a b c = some true := by rw [l1In_eq, decide_eq_true h]
theorem l1In_f {a b c : Int} (h : ¬ (b ≤ a ∧ a ≤ c)) : spec_l1In.f a b c = some false := by rw [l1In_eq, decide_eq_false h]
end Go.Proofs.YtefcbnlljpdjnaaDoor.Q
namespace Go.Proofs.YtefcbnlljpdjnaaDoor.Q
open Go.RowKit Go.Sort Go.Shelf Go.Proofs.YtefcbnlljpdjnaaDoorW.PrintWords Go.Proofs.YtefcbnlljpdjnaaDoorW.PrintLast Go.Proofs.YtefcbnlljpdjnaaDoorW.PrintMore
set_option linter.unusedVariables false
theorem bsz2 {w w2 : World} {o1 o2 : Obj} (h : Below (w.heap.size + 1 + 1) ((w.alloc o1).alloc o2) w2) : w.heap.size + 1 + 1 ≤ w2.heap.size := by simpa using h.size
end Go.Proofs.YtefcbnlljpdjnaaDoor.Q
namespace Go.Proofs.YtefcbnlljpdjnaaDoor.Q
open Go.RowKit Go.Proofs.YtefcbnlljpdjnaaDoorW.PrintWords Go.Proofs.YtefcbnlljpdjnaaDoorW.PrintLast Go.Proofs.YtefcbnlljpdjnaaDoorW.PrintMore
attribute [local go_sem] run_field_25 run_field_26 run_field_35 run_field_36 isSome_setCell max2_int min2_int max_two min_two max_three min_three max_four min_four   -- for this text's walks alone
set_option linter.unusedVariables false
set_option linter.unusedSimpArgs false
mutual
def spec_ShiftTrie.j0 : Nat → Int → Bool → List (S76) → Option ((List (S76)) × Bool)
  | 0, _, _, _ => none
  | k + 1, x1, x18, x890000 => if x18 = true then (some (([] : List (S76)), false)) else ((spec_l2Words.f k x890000).bind fun t896 => (spec_ShiftTrie.l0 k x1 (([] : List ByteArray)) t896 0))
def spec_ShiftTrie.l0 : Nat → Int → List ByteArray → List ByteArray → Int → Option ((List (S76)) × Bool)
  | 0, _, _, _, _ => none
  | k + 1, x1, x6, x7, x8 => if x8 < (x7.length : Int) then (spec_ShiftTrie.l1 k x1 x6 x7 x8 (⟨#[]⟩ : ByteArray) 0) else ((spec_l5Made.f k x6).bind fun bt899 => (some (bt899.1, bt899.2)))
def spec_ShiftTrie.l1 : Nat → Int → List ByteArray → List ByteArray → Int → ByteArray → Int → Option ((List (S76)) × Bool)
  | 0, _, _, _, _, _, _ => none
  | k + 1, x1, x6, x7, x8, x9, x10 => if 0 ≤ x8 then (if x8 < (x7.length : Int) then (if x10 < ((rdOf ByteArray.empty x7 x8).size : Int) then (if 0 ≤ x10 then ((some (([(wrap64 (97 + (Int.tmod (wrap64 ((((bt (rdOf ByteArray.empty x7 x8) x10) - 97) % 256) + x1)) 26))) % 256] : List Int) : List Int)).bind fun y905 => (if x9.size + (strOfNums y905).size ≤ 9223372036854775807 then (spec_ShiftTrie.l1 k x1 x6 x7 x8 (x9 ++ (strOfNums y905)) (wrap64 (x10 + 1))) else (none))) else (none)) else (if x6.length < 8796093022208 then (spec_ShiftTrie.l0 k x1 (x6 ++ [x9]) x7 (wrap64 (x8 + 1))) else (none))) else (none)) else (none)
end
def spec_ShiftTrie.f (k : Nat) (l0_0 : List (S76)) (a1 : Int) : Option ((List (S76)) × Bool) := (spec_l2Trie.f k l0_0).bind fun t891 => (if t891 = true then ((spec_l1In.f a1 0 25).bind fun t892 => (spec_ShiftTrie.j0 k a1 (!t892) l0_0)) else (spec_ShiftTrie.j0 k a1 true l0_0))
set_option maxHeartbeats 8000000 in
set_option maxRecDepth 100000 in
theorem spec_ShiftTrie.calls (k : Nat) (A0_0 : Option Addr) (c0_0 : Nat) (l0_0 : List (S76)) (a1 : Int) (r1 : List (S76)) (r2 : Bool) (w : World) (hr0_0 : Kd.C k76 w A0_0 l0_0.length l0_0) (hc0_0 : l0_0.length ≤ c0_0) (h : spec_ShiftTrie.f k l0_0 a1 = some (r1, r2)) :
    Calls Tryd.prog 37 #[.agg #[.slice A0_0 l0_0.length c0_0], .int .i64 a1] w fun e w' => ∃ v0_ : Value, e = .returned (.tuple #[.agg #[v0_], .bool r2]) ∧ Kd.R k76 76 w' w.heap.size (fun _ => True) v0_ r1 ∧ Below w.heap.size w w' := by
  have hu26 := Tryd.underlying26
  have HR0_0 := Aside0.mk hr0_0
  have HC0_0 := Aside0.mk hc0_0
  clear hr0_0 hc0_0
  have HB := Aside0.mk (Below.refl w.heap.size w)
  have H : ((spec_l2Trie.f k l0_0).bind fun t891 => (if t891 = true then ((spec_l1In.f a1 0 25).bind fun t892 => (spec_ShiftTrie.j0 k a1 (!t892) l0_0)) else (spec_ShiftTrie.j0 k a1 true l0_0))) = some (r1, r2) := h
  clear h
  have HC3 := Aside0.mk H
  clear H
  go_enter Tryd.func37, Tryd.ntmps37
  go_upto_region 1 with (first | ((with_reducible refine gate_dst (N := 2) rfl ?_); refine box_event ?hg (N := 2) ?hd (cs := #[.slice A0_0 l0_0.length c0_0]) (t := 26) ?hr ?_; (case hd => rfl); (case hg => rfl); (case hr => first | (go_simp; done) | (go_simp; rfl)); intro gb889 hg w4 hbox hb; have n0_ := Aside0.mk (below_step (by repeat (first | (with_reducible first | exact HB.out | apply below_alloc | apply pw_below_drewN | apply below_drew1) | exact HB.out)) hb); have n1_ := Aside0.mk (hbox); have n2_ := Aside0.mk ((by rw [hg]; exact (below_size (by repeat (first | (with_reducible first | exact HB.out | apply below_alloc | apply pw_below_drewN | apply below_drew1) | exact HB.out))) : w.heap.size ≤ gb889)); have n3_ := Aside0.mk ((by rw [hg]; exact (below_size (by repeat (first | (with_reducible first | exact HB.out | apply below_alloc | apply pw_below_drewN | apply below_drew1) | exact HB.out))) : w.heap.size ≤ gb889)); clear HB; have HB := n0_; have BK889 := n1_; have GW889 := n2_; have GE889 := n3_; clear n0_ n1_ n2_ n3_; clear hb hbox hg) | ((with_reducible refine gate_dst (N := 4) rfl ?_); refine box_event ?hg (N := 4) ?hd (cs := #[.slice none 0 0]) (t := 26) ?hr ?_; (case hd => rfl); (case hg => rfl); (case hr => first | (go_simp; done) | (go_simp; rfl)); intro gb890 hg w5 hbox hb; have n0_ := Aside0.mk (blk_below (g := gb889) (o := .cells #[.slice A0_0 l0_0.length c0_0] 26 (0, 0)) (by (with_reducible repeat (first | refine blk_drewN ?_ _ | refine blk_drew ?_ | refine blk_alloc ?_ _)); exact BK889.out) hb); have n1_ := Aside0.mk (below_step (by repeat (first | (with_reducible first | exact HB.out | apply below_alloc | apply pw_below_drewN | apply below_drew1 | refine below_set ?_ GE889.out) | exact HB.out)) hb); have n2_ := Aside0.mk (hbox); have n3_ := Aside0.mk ((by rw [hg]; exact (below_size (by repeat (first | (with_reducible first | exact HB.out | apply below_alloc | apply pw_below_drewN | apply below_drew1 | refine below_set ?_ GE889.out) | exact HB.out))) : w.heap.size ≤ gb890)); have n4_ := Aside0.mk ((by rw [hg]; exact (below_size (by repeat (first | (with_reducible first | exact HB.out | apply below_alloc | apply pw_below_drewN | apply below_drew1 | refine below_set ?_ GE889.out) | exact HB.out))) : w.heap.size ≤ gb890)); have n5_ := Aside0.mk ((by rw [hg]; exact Nat.ne_of_lt (blk_lt (g := gb889) (o := .cells #[.slice A0_0 l0_0.length c0_0] 26 (0, 0)) (by (with_reducible repeat (first | refine blk_drewN ?_ _ | refine blk_drew ?_ | refine blk_alloc ?_ _)); exact BK889.out)) : gb889 ≠ gb890)); have n6_ := Aside0.mk ((by rw [hg]; exact Nat.ne_of_gt (blk_lt (g := gb889) (o := .cells #[.slice A0_0 l0_0.length c0_0] 26 (0, 0)) (by (with_reducible repeat (first | refine blk_drewN ?_ _ | refine blk_drew ?_ | refine blk_alloc ?_ _)); exact BK889.out)) : gb890 ≠ gb889)); clear BK889; clear HB; have BK889 := n0_; have HB := n1_; have BK890 := n2_; have GW890 := n3_; have GE890 := n4_; have NB889_890 := n5_; have NB890_889 := n6_; clear n0_ n1_ n2_ n3_ n4_ n5_ n6_; clear hb hbox hg))
  (try simp only [Act.put, List.setIfInBounds_toArray, List.set_cons_zero, List.set_cons_succ])
  go_cut [18] (fun v18 wc => ∃ (kq : Nat) (x18_2 : Bool), v18 = .bool x18_2 ∧ Aside0 (spec_ShiftTrie.j0 kq a1 x18_2 l0_0 = some (r1, r2)) ∧ Aside0 (kq ≤ k) ∧ Aside0 (wc.heap[gb889]? = some (.cells #[(.slice A0_0 l0_0.length c0_0)] 26 (0, 0))) ∧ Aside0 (wc.heap[gb890]? = some (.cells #[(.slice none 0 0)] 26 (0, 0))) ∧ Aside0 (Below w.heap.size w wc))
  case first =>
    have H := HC3.out
    clear HC3
    replace H := Option.bind_eq_some_iff.mp H
    obtain ⟨t891, A60, H⟩ := H
    replace H : (if t891 = true then ((spec_l1In.f a1 0 25).bind fun t892 => (spec_ShiftTrie.j0 k a1 (!t892) l0_0)) else (spec_ShiftTrie.j0 k a1 true l0_0)) = some (r1, r2) := H
    have A6 := Aside0.mk A60
    clear A60
    by_cases c7 : t891 = true
    · subst c7
      have H1 : ((spec_l1In.f a1 0 25).bind fun t892 => (spec_ShiftTrie.j0 k a1 (!t892) l0_0)) = some (r1, r2) := by rw [if_pos rfl] at H; exact H
      clear H
      have H := H1
      clear H1
      replace H := Option.bind_eq_some_iff.mp H
      obtain ⟨t892, A80, H⟩ := H
      replace H : (spec_ShiftTrie.j0 k a1 (!t892) l0_0) = some (r1, r2) := H
      have A8 := Aside0.mk A80
      clear A80
      have H' := Aside0.mk H
      clear H
      have hnb9 := NB889_890.out
      have hnc9 := NB890_889.out
      have hcz10_0 : w5.cell? ⟨gb889, 0, none⟩ = some (.slice A0_0 l0_0.length c0_0) := (blk_cell BK889.out 0).trans rfl
      have hfz10_0 := blk_frozen BK889.out 0
      go_wp2_with (first | ((with_reducible refine gate_callee (f := 50) rfl ?_); refine goesL_ (some 12) rfl rfl Tryd.func50 (by kernel_rfl) rfl #[.agg #[.slice A0_0 l0_0.length c0_0]] rfl (by (try simp only [List.map_toArray, List.map_cons, List.map_nil]); first | done | rfl | (simp only [List.length_drop, List.length_take]; rfl)) ?_; (with_reducible refine (spec_l2Trie.calls k _ _ l0_0 true _ ?side1 ?side2 A6.out).mono ?_); (case side1 => repeat (first | exact (Kd.C_below HR0_0.out HB.out) | (with_reducible refine Kd.C_alloc ?_ _) | (with_reducible refine Kd.C_drewN ?_ _) | (with_reducible refine Kd.C_drew ?_))); (case side2 => exact HC0_0.out); rintro e w11 ⟨rfl, hb⟩; refine ⟨_, rfl, ?_⟩; have n0_ := Aside0.mk (blk_below (g := gb889) (o := .cells #[.slice A0_0 l0_0.length c0_0] 26 (0, 0)) (by (with_reducible repeat (first | refine blk_drewN ?_ _ | refine blk_drew ?_ | refine blk_alloc ?_ _)); exact BK889.out) hb); have n1_ := Aside0.mk (blk_below (g := gb890) (o := .cells #[.slice none 0 0] 26 (0, 0)) (by (with_reducible repeat (first | refine blk_drewN ?_ _ | refine blk_drew ?_ | refine blk_alloc ?_ _)); exact BK890.out) hb); have n2_ := Aside0.mk (below_step (by repeat (first | (with_reducible first | exact HB.out | apply below_alloc | apply pw_below_drewN | apply below_drew1 | refine below_set ?_ GE889.out | refine below_set ?_ GE890.out) | exact HB.out)) hb); clear BK889; clear BK890; clear HB; have BK889 := n0_; have BK890 := n1_; have HB := n2_; clear n0_ n1_ n2_; (try clear hb); (try clear hb2); (try clear hk); (try clear hi)) | (go_at_call 72; (with_reducible refine (spec_l1In.calls a1 0 25 t892 _ A8.out).mono ?_); rintro e w' ⟨rfl, ⟨nd, rfl⟩⟩))
      go_meet
      case rel => exact ⟨_, (!t892), (by first | rfl | (simp; done) | (simp [*]; done)), H', ⟨by first | omega | exact Nat.le_refl _⟩, ⟨by (with_reducible repeat (first | refine blk_drewN ?_ _ | refine blk_drew ?_ | refine blk_alloc ?_ _)); exact BK889.out⟩, ⟨by (with_reducible repeat (first | refine blk_drewN ?_ _ | refine blk_drew ?_ | refine blk_alloc ?_ _)); exact BK890.out⟩, ⟨by repeat (first | (with_reducible first | exact HB.out | apply below_alloc | apply pw_below_drewN | apply below_drew1 | refine below_set ?_ GE889.out | refine below_set ?_ GE890.out) | exact HB.out)⟩⟩
    · replace c7 := Bool.eq_false_iff.mpr c7
      subst c7
      have H1 : (spec_ShiftTrie.j0 k a1 true l0_0) = some (r1, r2) := by rw [if_neg (show ¬ (false = true) by decide)] at H; exact H
      clear H
      have H := H1
      clear H1
      have H' := Aside0.mk H
      clear H
      have hnb12 := NB889_890.out
      have hnc12 := NB890_889.out
      have hcz13_0 : w5.cell? ⟨gb889, 0, none⟩ = some (.slice A0_0 l0_0.length c0_0) := (blk_cell BK889.out 0).trans rfl
      have hfz13_0 := blk_frozen BK889.out 0
      go_wp2_with (first | ((with_reducible refine gate_callee (f := 50) rfl ?_); refine goesL_ (some 12) rfl rfl Tryd.func50 (by kernel_rfl) rfl #[.agg #[.slice A0_0 l0_0.length c0_0]] rfl (by (try simp only [List.map_toArray, List.map_cons, List.map_nil]); first | done | rfl | (simp only [List.length_drop, List.length_take]; rfl)) ?_; (with_reducible refine (spec_l2Trie.calls k _ _ l0_0 false _ ?side1 ?side2 A6.out).mono ?_); (case side1 => repeat (first | exact (Kd.C_below HR0_0.out HB.out) | (with_reducible refine Kd.C_alloc ?_ _) | (with_reducible refine Kd.C_drewN ?_ _) | (with_reducible refine Kd.C_drew ?_))); (case side2 => exact HC0_0.out); rintro e w14 ⟨rfl, hb⟩; refine ⟨_, rfl, ?_⟩; have n0_ := Aside0.mk (blk_below (g := gb889) (o := .cells #[.slice A0_0 l0_0.length c0_0] 26 (0, 0)) (by (with_reducible repeat (first | refine blk_drewN ?_ _ | refine blk_drew ?_ | refine blk_alloc ?_ _)); exact BK889.out) hb); have n1_ := Aside0.mk (blk_below (g := gb890) (o := .cells #[.slice none 0 0] 26 (0, 0)) (by (with_reducible repeat (first | refine blk_drewN ?_ _ | refine blk_drew ?_ | refine blk_alloc ?_ _)); exact BK890.out) hb); have n2_ := Aside0.mk (below_step (by repeat (first | (with_reducible first | exact HB.out | apply below_alloc | apply pw_below_drewN | apply below_drew1 | refine below_set ?_ GE889.out | refine below_set ?_ GE890.out) | exact HB.out)) hb); clear BK889; clear BK890; clear HB; have BK889 := n0_; have BK890 := n1_; have HB := n2_; clear n0_ n1_ n2_; (try clear hb); (try clear hb2); (try clear hk); (try clear hi)))
      go_meet
      case rel => exact ⟨_, (true), (by first | rfl | (simp; done) | (simp [*]; done)), H', ⟨by first | omega | exact Nat.le_refl _⟩, ⟨by (with_reducible repeat (first | refine blk_drewN ?_ _ | refine blk_drew ?_ | refine blk_alloc ?_ _)); exact BK889.out⟩, ⟨by (with_reducible repeat (first | refine blk_drewN ?_ _ | refine blk_drew ?_ | refine blk_alloc ?_ _)); exact BK890.out⟩, ⟨by repeat (first | (with_reducible first | exact HB.out | apply below_alloc | apply pw_below_drewN | apply below_drew1 | refine below_set ?_ GE889.out | refine below_set ?_ GE890.out) | exact HB.out)⟩⟩
  case rest =>
    clear HC3
    try clear c1
    try clear p2
    try clear c3
    try clear c5
    try clear c7
    try clear c9
    try clear c12
    try clear hcz10_0
    try clear hcz13_0
    try clear hfz10_0
    try clear hfz13_0
    obtain ⟨kq, x18_2, rfl, HA, HJ2, BK889, BK890, HB⟩ := hcut
    cases kq with
    | zero => exact absurd HA.out (by simp [spec_ShiftTrie.j0])
    | succ kj2 =>
      have H := HA.out
      clear HA
      simp only [spec_ShiftTrie.j0] at H
      by_cases c15 : x18_2 = true
      · subst c15
        have H1 : (some (([] : List (S76)), false)) = some (r1, r2) := by rw [if_pos rfl] at H; exact H
        clear H
        have H := H1
        clear H1
        simp only [Option.some.injEq, Prod.mk.injEq] at H
        obtain ⟨rfl, rfl⟩ := H
        have hnb16 := NB890_889.out
        have hnc16 := NB889_890.out
        have hcz17_0 : wc.cell? ⟨gb890, 0, none⟩ = some (.slice none 0 0) := (blk_cell BK890.out 0).trans rfl
        have hfz17_0 := blk_frozen BK890.out 0
        go_wp2
        refine bodyPost_ret (results_ct rfl _ _ gb890 26 #[.slice none 0 0] (0, 0) _ rfl (by (with_reducible repeat (first | refine blk_drewN ?_ _ | refine blk_drew ?_ | refine blk_alloc ?_ _)); refine blk_put (cs := #[.slice none 0 0]) ?_ 0 _ rfl; (with_reducible repeat (first | refine blk_drewN ?_ _ | refine blk_drew ?_ | refine blk_alloc ?_ _)); exact BK890.out) Tryd.underlying26 rfl (by kernel_rfl)) rfl ?_
        exact ⟨_, by first | rfl | (simp [errW_none, errW_some] <;> rfl) | (simp [*, errW_none, errW_some] <;> rfl), by first | exact Kd.R_nil _ _ _ _ _ | exact Kd.N_nil _ _ _ _ _ | exact Kd.V_nil _ _ _ _ _ | exact Kd.Q_nil _ _ _ _ _ | exact Kd.S_nil _ _ _ _ _, by repeat (first | (with_reducible first | exact HB.out | apply below_alloc | apply pw_below_drewN | apply below_drew1 | refine below_set ?_ GE889.out | refine below_set ?_ GE890.out) | exact HB.out)⟩
      · replace c15 := Bool.eq_false_iff.mpr c15
        subst c15
        have H1 : ((spec_l2Words.f kj2 l0_0).bind fun t896 => (spec_ShiftTrie.l0 kj2 a1 (([] : List ByteArray)) t896 0)) = some (r1, r2) := by rw [if_neg (show ¬ (false = true) by decide)] at H; exact H
        clear H
        have H := H1
        clear H1
        obtain ⟨y893, hy893⟩ : ∃ y_ : List ByteArray, y_ = (([] : List ByteArray)) := ⟨_, rfl⟩
        replace H : ((spec_l2Words.f kj2 l0_0).bind fun t896 => (spec_ShiftTrie.l0 kj2 a1 y893 t896 0)) = some (r1, r2) := by first | (rw [hy893]; with_reducible exact H) | (have H2_ := (Option.bind_some _ _).symm.trans H; rw [hy893]; with_reducible exact H2_) | (have H2_ := (Option.bind_some _ _).symm.trans H; with_reducible exact H2_) | with_reducible exact H | (rw [hy893]; exact H) | exact H
        have Ny893 := Aside0.mk hy893
        clear hy893
        replace H := Option.bind_eq_some_iff.mp H
        obtain ⟨t896, A180, H⟩ := H
        replace H : (spec_ShiftTrie.l0 kj2 a1 y893 t896 0) = some (r1, r2) := H
        have A18 := Aside0.mk A180
        clear A180
        have H' := Aside0.mk H
        clear H
        go_wp2_with (first | ((with_reducible refine gate_dst (N := 20) rfl ?_); refine Kd.R_lit Kd.string _ 9 ?hg (N := 20) ?hd (xs := ([] : List ByteArray)) (inner := []) (ok := fun _ => True) (okp := fun _ => True) ?hr ?hp (fun _ hk => hk) trivial (Below.refl _ _) (Nat.le_refl _) (by simp) ?_; (case hd => rfl); (case hg => rfl); (case hr => first | (go_simp; done) | (go_simp; rfl)); (case hp => exact (Reps.none _ _)); intro v894 w19 ho20 hb hg_ hnew_; clear hg_ hnew_; (first | rw [← Ny893.out] at ho20 | (simp only [Int.reduceToNat] at ho20; rw [← Ny893.out] at ho20)); have n0_ := Aside0.mk (Kd.R_lower ho20 (below_size (by repeat (first | (with_reducible first | exact HB.out | apply below_alloc | apply pw_below_drewN | apply below_drew1 | refine below_set ?_ GE889.out | refine below_set ?_ GE890.out) | exact HB.out)))); have n1_ := Aside0.mk (blk_below (g := gb889) (o := .cells #[.slice A0_0 l0_0.length c0_0] 26 (0, 0)) (by (with_reducible repeat (first | refine blk_drewN ?_ _ | refine blk_drew ?_ | refine blk_alloc ?_ _)); exact BK889.out) hb); have n2_ := Aside0.mk (blk_below (g := gb890) (o := .cells #[.slice none 0 0] 26 (0, 0)) (by (with_reducible repeat (first | refine blk_drewN ?_ _ | refine blk_drew ?_ | refine blk_alloc ?_ _)); exact BK890.out) hb); have n3_ := Aside0.mk (below_step (by repeat (first | (with_reducible first | exact HB.out | apply below_alloc | apply pw_below_drewN | apply below_drew1 | refine below_set ?_ GE889.out | refine below_set ?_ GE890.out) | exact HB.out)) hb); clear BK889; clear BK890; clear HB; have HO895 := n0_; have BK889 := n1_; have BK890 := n2_; have HB := n3_; clear n0_ n1_ n2_ n3_; clear hb ho20; have hnb21 := NB889_890.out; have hnc21 := NB890_889.out; have hcz22_0 : w19.cell? ⟨gb889, 0, none⟩ = some (.slice A0_0 l0_0.length c0_0) := (blk_cell BK889.out 0).trans rfl; have hfz22_0 := blk_frozen BK889.out 0) | ((with_reducible refine gate_callee (f := 52) rfl ?_); refine goesL_ (some 22) rfl rfl Tryd.func52 (by kernel_rfl) rfl #[.agg #[.slice A0_0 l0_0.length c0_0]] rfl (by (try simp only [List.map_toArray, List.map_cons, List.map_nil]); first | done | rfl | (simp only [List.length_drop, List.length_take]; rfl)) ?_; (with_reducible refine (spec_l2Words.calls kj2 _ _ l0_0 t896 _ ?side1 ?side2 A18.out).mono ?_); (case side1 => repeat (first | exact (Kd.C_below HR0_0.out HB.out) | (with_reducible refine Kd.C_alloc ?_ _) | (with_reducible refine Kd.C_drewN ?_ _) | (with_reducible refine Kd.C_drew ?_))); (case side2 => exact HC0_0.out); rintro e w23 ⟨v897, rfl, ho0, hb⟩; refine ⟨_, rfl, ?_⟩; have n0_ := Aside0.mk (Kd.R_elder' (by (with_reducible repeat (first | apply Kd.R_alloc | apply Kd.R_drewN | apply Kd.R_drew)); exact HO895.out) (Kd.R_base ho0) hb); have n1_ := Aside0.mk (Kd.R_lower (Kd.R_new' ho0 (Kd.R_lt (by (with_reducible repeat (first | apply Kd.R_alloc | apply Kd.R_drewN | apply Kd.R_drew)); exact HO895.out))) (below_size (by repeat (first | (with_reducible first | exact HB.out | apply below_alloc | apply pw_below_drewN | apply below_drew1 | refine below_set ?_ GE889.out | refine below_set ?_ GE890.out) | exact HB.out)))); have n2_ := Aside0.mk (blk_below (g := gb889) (o := .cells #[.slice A0_0 l0_0.length c0_0] 26 (0, 0)) (by (with_reducible repeat (first | refine blk_drewN ?_ _ | refine blk_drew ?_ | refine blk_alloc ?_ _)); exact BK889.out) hb); have n3_ := Aside0.mk (blk_below (g := gb890) (o := .cells #[.slice none 0 0] 26 (0, 0)) (by (with_reducible repeat (first | refine blk_drewN ?_ _ | refine blk_drew ?_ | refine blk_alloc ?_ _)); exact BK890.out) hb); have n4_ := Aside0.mk (below_step (by repeat (first | (with_reducible first | exact HB.out | apply below_alloc | apply pw_below_drewN | apply below_drew1 | refine below_set ?_ GE889.out | refine below_set ?_ GE890.out) | exact HB.out)) hb); clear HO895; clear BK889; clear BK890; clear HB; have HO895 := n0_; have HO898 := n1_; have BK889 := n2_; have BK890 := n3_; have HB := n4_; clear n0_ n1_ n2_ n3_ n4_; (try clear hb); (try clear hb2); (try clear hk); (try clear hi); (try clear ho0)))
        go_loopg [6, 8] kj2 (fun kq v6 v8 w' => ∃ (x6_2 : List ByteArray) (x8_2 : Int), v8 = .int .i64 x8_2 ∧ Aside0 (spec_ShiftTrie.l0 kq a1 x6_2 t896 x8_2 = some (r1, r2)) ∧ Aside0 (kq ≤ kj2) ∧ Aside0 (Kd.R Kd.string 9 w' w.heap.size (fun k_ => some k_ ≠ (v897 : Value).ownBlock) v6 x6_2) ∧ Aside0 (Kd.R Kd.string 9 w' w.heap.size (fun k_ => some k_ ≠ (v6 : Value).ownBlock) v897 t896) ∧ Aside0 (w'.heap[gb889]? = some (.cells #[(.slice A0_0 l0_0.length c0_0)] 26 (0, 0))) ∧ Aside0 (w'.heap[gb890]? = some (.cells #[(.slice none 0 0)] 26 (0, 0))) ∧ Aside0 (Below w.heap.size w w'))
        case atStart => exact ⟨(y893), (0), (by first | rfl | (simp; done) | (simp [*]; done)), H', ⟨Nat.le_refl _⟩, ⟨by (with_reducible repeat (first | apply Kd.R_alloc | apply Kd.R_drewN | apply Kd.R_drew)); exact Kd.R_mono HO895.out (fun _ hk => hk.2)⟩, ⟨by (with_reducible repeat (first | apply Kd.R_alloc | apply Kd.R_drewN | apply Kd.R_drew)); exact Kd.R_mono HO898.out (fun _ hk => hk.2)⟩, ⟨by (with_reducible repeat (first | refine blk_drewN ?_ _ | refine blk_drew ?_ | refine blk_alloc ?_ _)); exact BK889.out⟩, ⟨by (with_reducible repeat (first | refine blk_drewN ?_ _ | refine blk_drew ?_ | refine blk_alloc ?_ _)); exact BK890.out⟩, ⟨by repeat (first | (with_reducible first | exact HB.out | apply below_alloc | apply pw_below_drewN | apply below_drew1 | refine below_set ?_ GE889.out | refine below_set ?_ GE890.out) | exact HB.out)⟩⟩
        case round =>
          clear H'
          try clear c1
          try clear c2
          try clear p2
          try clear c3
          try clear c5
          try clear c7
          try clear c9
          try clear c12
          try clear c15
          try clear c16
          try clear c21
          try clear hcz10_0
          try clear hcz13_0
          try clear hcz17_0
          try clear hcz22_0
          try clear hfz10_0
          try clear hfz13_0
          try clear hfz17_0
          try clear hfz22_0
          try clear p2
          obtain ⟨x6_2, x8_2, rfl, HA, HK2, HO_6, HO_7, BK889, BK890, HB⟩ := hrel
          cases gk with
          | zero => exact absurd HA.out (by simp [spec_ShiftTrie.l0])
          | succ k2 =>
            have H := HA.out
            clear HA
            simp only [spec_ShiftTrie.l0] at H
            by_cases c24 : x8_2 < (t896.length : Int)
            · rw [if_pos c24] at H
              have c24b0 : decide (x8_2 < (t896.length : Int)) = true := decide_eq_true c24
              clear c24
              have H' := Aside0.mk H
              clear H
              obtain ⟨Ao25, co25, eo25⟩ := Kd.R_slice HO_7.out
              subst eo25
              go_wp2
              go_loopg [9, 10] k2 (fun kq v9 v10 w' => ∃ (x9_3 : ByteArray) (x10_3 : Int), v9 = .string x9_3 ∧ v10 = .int .i64 x10_3 ∧ Aside0 (spec_ShiftTrie.l1 kq a1 x6_2 t896 x8_2 x9_3 x10_3 = some (r1, r2)) ∧ Aside0 (kq ≤ k2) ∧ Aside0 (Kd.R Kd.string 9 w' w.heap.size (fun k_ => some k_ ≠ ((.slice Ao25 t896.length co25) : Value).ownBlock) u6 x6_2) ∧ Aside0 (Kd.R Kd.string 9 w' w.heap.size (fun k_ => some k_ ≠ (u6 : Value).ownBlock) (.slice Ao25 t896.length co25) t896) ∧ Aside0 (w'.heap[gb889]? = some (.cells #[(.slice A0_0 l0_0.length c0_0)] 26 (0, 0))) ∧ Aside0 (w'.heap[gb890]? = some (.cells #[(.slice none 0 0)] 26 (0, 0))) ∧ Aside0 (Below w.heap.size w w'))
              case atStart => exact ⟨((⟨#[]⟩ : ByteArray)), (0), (by first | rfl | (simp; done) | (simp [*]; done)), (by first | rfl | (simp; done) | (simp [*]; done)), H', ⟨Nat.le_refl _⟩, ⟨by (with_reducible repeat (first | apply Kd.R_alloc | apply Kd.R_drewN | apply Kd.R_drew)); exact HO_6.out⟩, ⟨by (with_reducible repeat (first | apply Kd.R_alloc | apply Kd.R_drewN | apply Kd.R_drew)); exact HO_7.out⟩, ⟨by (with_reducible repeat (first | refine blk_drewN ?_ _ | refine blk_drew ?_ | refine blk_alloc ?_ _)); exact BK889.out⟩, ⟨by (with_reducible repeat (first | refine blk_drewN ?_ _ | refine blk_drew ?_ | refine blk_alloc ?_ _)); exact BK890.out⟩, ⟨by repeat (first | (with_reducible first | exact HB.out | apply below_alloc | apply pw_below_drewN | apply below_drew1 | refine below_set ?_ GE889.out | refine below_set ?_ GE890.out) | exact HB.out)⟩⟩
              case round =>
                clear H'
                try clear c1
                try clear c2
                try clear p2
                try clear c3
                try clear c5
                try clear c7
                try clear c9
                try clear c12
                try clear c15
                try clear c16
                try clear c21
                try clear c24
                try clear c24b0
                try clear hcz10_0
                try clear hcz13_0
                try clear hcz17_0
                try clear hcz22_0
                try clear hfz10_0
                try clear hfz13_0
                try clear hfz17_0
                try clear hfz22_0
                try clear p2
                obtain ⟨x9_3, x10_3, rfl, rfl, HA, HK3, HO_6, HO_7, BK889, BK890, HB⟩ := hrel
                cases gk with
                | zero => exact absurd HA.out (by simp [spec_ShiftTrie.l1])
                | succ k3 =>
                  have H := HA.out
                  clear HA
                  simp only [spec_ShiftTrie.l1] at H
                  by_cases c26 : 0 ≤ x8_2
                  · rw [if_pos c26] at H
                    have c26b0 : decide (0 ≤ x8_2) = true := decide_eq_true c26
                    clear c26
                    by_cases c27 : x8_2 < (t896.length : Int)
                    · rw [if_pos c27] at H
                      have c27b0 : decide (x8_2 < (t896.length : Int)) = true := decide_eq_true c27
                      clear c27
                      by_cases c28 : x10_3 < ((rdOf ByteArray.empty t896 x8_2).size : Int)
                      · rw [if_pos c28] at H
                        have c28b0 : decide (x10_3 < ((rdOf ByteArray.empty t896 x8_2).size : Int)) = true := decide_eq_true c28
                        clear c28
                        by_cases c29 : 0 ≤ x10_3
                        · rw [if_pos c29] at H
                          have c29b0 : decide (0 ≤ x10_3) = true := decide_eq_true c29
                          clear c29
                          obtain ⟨y905, hy905⟩ : ∃ y_ : List Int, y_ = (([(wrap64 (97 + (Int.tmod (wrap64 ((((bt (rdOf ByteArray.empty t896 x8_2) x10_3) - 97) % 256) + a1)) 26))) % 256] : List Int)) := ⟨_, rfl⟩
                          replace H : (if x9_3.size + (strOfNums y905).size ≤ 9223372036854775807 then (spec_ShiftTrie.l1 k3 a1 x6_2 t896 x8_2 (x9_3 ++ (strOfNums y905)) (wrap64 (x10_3 + 1))) else (none)) = some (r1, r2) := by first | (rw [hy905]; with_reducible exact H) | (have H2_ := (Option.bind_some _ _).symm.trans H; rw [hy905]; with_reducible exact H2_) | (have H2_ := (Option.bind_some _ _).symm.trans H; with_reducible exact H2_) | with_reducible exact H | (rw [hy905]; exact H) | exact H
                          have Ny905 := Aside0.mk hy905
                          clear hy905
                          by_cases c31 : x9_3.size + (strOfNums y905).size ≤ 9223372036854775807
                          · rw [if_pos c31] at H
                            have c31b0 := eq_true c31
                            have c31b1 : decide (x9_3.size + (strOfNums y905).size ≤ 9223372036854775807) = true := decide_eq_true c31
                            try have c31b2 : (9223372036854775807 < x9_3.size + (strOfNums y905).size) = False := eq_false (Nat.not_lt.2 c31)
                            have H' := Aside0.mk H
                            clear H
                            have p903 : 0 ≤ (x8_2 : Int) := of_decide_eq_true (by first | (with_reducible assumption) | assumption)
                            have q903 : x8_2 < (t896.length : Int) := of_decide_eq_true (by first | (with_reducible assumption) | assumption)
                            obtain ⟨ad903, e903, hx903_0⟩ := Kd.at_string (Kd.R_reads' HO_7.out).2.2 x8_2 p903 q903
                            cases e903
                            replace p903 := eq_true p903
                            replace q903 := eq_true q903
                            have p904 : 0 ≤ (x8_2 : Int) := of_decide_eq_true (by first | (with_reducible assumption) | assumption)
                            have q904 : x8_2 < (t896.length : Int) := of_decide_eq_true (by first | (with_reducible assumption) | assumption)
                            obtain ⟨ad904, e904, hx904_0⟩ := Kd.at_string (Kd.R_reads' HO_7.out).2.2 x8_2 p904 q904
                            obtain rfl : ad903 = ad904 := (by injection e904)
                            replace p904 := eq_true p904
                            replace q904 := eq_true q904
                            have p30 : 0 ≤ (x10_3 : Int) := of_decide_eq_true (by first | (with_reducible assumption) | assumption)
                            have q30 : x10_3 < ((rdOf ByteArray.empty t896 x8_2).size : Int) := of_decide_eq_true (by first | (with_reducible assumption) | assumption)
                            have hx30 := bt_at (rdOf ByteArray.empty t896 x8_2) x10_3
                            replace p30 := eq_true p30
                            replace q30 := eq_true q30
                            go_wp2_with (first | ((with_reducible refine gate_dst (N := 52) rfl ?_); refine Kd.R_lit (Kd.int .u8) _ 5 ?hg (N := 52) ?hd (xs := ([(wrap64 (97 + (Int.tmod (wrap64 ((((bt (rdOf ByteArray.empty t896 x8_2) x10_3) - 97) % 256) + a1)) 26))) % 256] : List Int)) (inner := [.int .u8 ((wrap64 (97 + (Int.tmod (wrap64 ((((bt (rdOf ByteArray.empty t896 x8_2) x10_3) - 97) % 256) + a1)) 26))) % 256)]) (ok := fun _ => True) (okp := fun _ => True) ?hr ?hp (fun _ hk => hk) trivial (Below.refl _ _) (Nat.le_refl _) (by simp) ?_; (case hd => rfl); (case hg => rfl); (case hr => first | (go_simp; done) | (go_simp; rfl)); (case hp => exact (Reps.one (show Kd.M (Kd.int .u8) _ _ _ ((wrap64 (97 + (Int.tmod (wrap64 ((((bt (rdOf ByteArray.empty t896 x8_2) x10_3) - 97) % 256) + a1)) 26))) % 256) [.int .u8 ((wrap64 (97 + (Int.tmod (wrap64 ((((bt (rdOf ByteArray.empty t896 x8_2) x10_3) - 97) % 256) + a1)) 26))) % 256)] from rfl) (Reps.none _ _))); intro v906 w32 ho33 hb hg_ hnew_; clear hg_ hnew_; (first | rw [← Ny905.out] at ho33 | (simp only [Int.reduceToNat] at ho33; rw [← Ny905.out] at ho33)); have n0_ := Aside0.mk (Kd.R_below (by (with_reducible repeat (first | apply Kd.R_alloc | apply Kd.R_drewN | apply Kd.R_drew)); exact HO_6.out) hb); have n1_ := Aside0.mk (Kd.R_below (by (with_reducible repeat (first | apply Kd.R_alloc | apply Kd.R_drewN | apply Kd.R_drew)); exact HO_7.out) hb); have n2_ := Aside0.mk (Kd.R_lower ho33 (below_size (by repeat (first | (with_reducible first | exact HB.out | apply below_alloc | apply pw_below_drewN | apply below_drew1 | refine below_set ?_ GE889.out | refine below_set ?_ GE890.out) | exact HB.out)))); have n3_ := Aside0.mk (blk_below (g := gb889) (o := .cells #[.slice A0_0 l0_0.length c0_0] 26 (0, 0)) (by (with_reducible repeat (first | refine blk_drewN ?_ _ | refine blk_drew ?_ | refine blk_alloc ?_ _)); exact BK889.out) hb); have n4_ := Aside0.mk (blk_below (g := gb890) (o := .cells #[.slice none 0 0] 26 (0, 0)) (by (with_reducible repeat (first | refine blk_drewN ?_ _ | refine blk_drew ?_ | refine blk_alloc ?_ _)); exact BK890.out) hb); have n5_ := Aside0.mk (below_step (by repeat (first | (with_reducible first | exact HB.out | apply below_alloc | apply pw_below_drewN | apply below_drew1 | refine below_set ?_ GE889.out | refine below_set ?_ GE890.out) | exact HB.out)) hb); clear HO_6; clear HO_7; clear BK889; clear BK890; clear HB; have HO_6 := n0_; have HO_7 := n1_; have HO907 := n2_; have BK889 := n3_; have BK890 := n4_; have HB := n5_; clear n0_ n1_ n2_ n3_ n4_ n5_; clear hb ho33; have hcv34 := own_string (P := Tryd.prog) Tryd.underlying72 Tryd.underlying5 Tryd.underlying9 (Kd.own_of_R HO907.out)))
                            go_roundg k3
                            case measure => have := HJ2.out; have := HK2.out; have := HK3.out; omega
                            case rel => exact ⟨(x9_3 ++ (strOfNums y905)), (wrap64 (x10_3 + 1)), (by first | rfl | (simp; done) | (simp [*]; done)), (by first | rfl | (simp; done) | (simp [*]; done)), H', ⟨by have := HJ2.out; have := HK2.out; have := HK3.out; omega⟩, ⟨by (with_reducible repeat (first | apply Kd.R_alloc | apply Kd.R_drewN | apply Kd.R_drew)); exact HO_6.out⟩, ⟨by (with_reducible repeat (first | apply Kd.R_alloc | apply Kd.R_drewN | apply Kd.R_drew)); exact HO_7.out⟩, ⟨by (with_reducible repeat (first | refine blk_drewN ?_ _ | refine blk_drew ?_ | refine blk_alloc ?_ _)); exact BK889.out⟩, ⟨by (with_reducible repeat (first | refine blk_drewN ?_ _ | refine blk_drew ?_ | refine blk_alloc ?_ _)); exact BK890.out⟩, ⟨by repeat (first | (with_reducible first | exact HB.out | apply below_alloc | apply pw_below_drewN | apply below_drew1 | refine below_set ?_ GE889.out | refine below_set ?_ GE890.out) | exact HB.out)⟩⟩
                          · rw [if_neg c31] at H
                            exact absurd H (by simp)
                        · rw [if_neg c29] at H
                          exact absurd H (by simp)
                      · rw [if_neg c28] at H
                        have c28b0 : decide (x10_3 < ((rdOf ByteArray.empty t896 x8_2).size : Int)) = false := decide_eq_false c28
                        clear c28
                        by_cases c35 : x6_2.length < 8796093022208
                        · rw [if_pos c35] at H
                          have LMc35 := Aside0.mk c35
                          clear c35
                          obtain ⟨y908, hy908⟩ : ∃ y_ : List ByteArray, y_ = (x6_2 ++ [x9_3]) := ⟨_, rfl⟩
                          replace H : (spec_ShiftTrie.l0 k3 a1 y908 t896 (wrap64 (x8_2 + 1))) = some (r1, r2) := by first | (rw [hy908]; with_reducible exact H) | (have H2_ := (Option.bind_some _ _).symm.trans H; rw [hy908]; with_reducible exact H2_) | (have H2_ := (Option.bind_some _ _).symm.trans H; with_reducible exact H2_) | with_reducible exact H | (rw [hy908]; exact H) | exact H
                          have Ny908 := Aside0.mk hy908
                          clear hy908
                          have H' := Aside0.mk H
                          clear H
                          have p903 : 0 ≤ (x8_2 : Int) := of_decide_eq_true (by first | (with_reducible assumption) | assumption)
                          have q903 : x8_2 < (t896.length : Int) := of_decide_eq_true (by first | (with_reducible assumption) | assumption)
                          obtain ⟨ad903, e903, hx903_0⟩ := Kd.at_string (Kd.R_reads' HO_7.out).2.2 x8_2 p903 q903
                          cases e903
                          replace p903 := eq_true p903
                          replace q903 := eq_true q903
                          go_wp2_with (first | ((with_reducible refine gate_builtin (b := .append) (xs := #[.tmp 55, .tmp 57]) rfl ?_); at_builtin; refine Kd.R_append Kd.string (w0 := w) w.heap.size rfl (.tmp 55) (.tmp 57) 22 9 (.string ⟨#[]⟩) 16 rfl Tryd.underlying22 info9 rfl (by decide) (by omega) u6 x6_2 x9_3 [.string x9_3] (fun k_ => some k_ ≠ (.slice (some ad903) t896.length co25 : Value).ownBlock) (fun _ => False) rfl rfl ?aP (fun _ hk => hk.elim) ?aF ?aO ?aB ?aS ?aL ?_; (case aP => exact rfl); (case aB => exact (by repeat (first | (with_reducible first | exact HB.out | apply below_alloc | apply pw_below_drewN | apply below_drew1 | refine below_set ?_ GE889.out | refine below_set ?_ GE890.out) | exact HB.out))); (case aF => exact (fun k_ hk => Kd.fresh' (Kd.R_lt (by (with_reducible repeat (first | apply Kd.R_alloc | apply Kd.R_drewN | apply Kd.R_drew)); exact HO_7.out)) k_ hk)); (case aO => exact (by (with_reducible repeat (first | apply Kd.R_alloc | apply Kd.R_drewN | apply Kd.R_drew)); exact HO_6.out)); (case aS => exact (below_size (by repeat (first | (with_reducible first | exact HB.out | apply below_alloc | apply pw_below_drewN | apply below_drew1 | refine below_set ?_ GE889.out | refine below_set ?_ GE890.out) | exact HB.out)))); (case aL => have := LMc35.out; omega); intro v909 w36 ho hb hg hat; rw [← Ny908.out] at ho; have n0_ := Aside0.mk (Kd.R_after (ok := (fun _ => True)) (by (with_reducible repeat (first | apply Kd.R_alloc | apply Kd.R_drewN | apply Kd.R_drew)); exact Kd.R_mono HO_7.out (fun _ hk => ⟨trivial, hk⟩)) hg hat); have n1_ := Aside0.mk (blk_grown (g := gb889) (o := .cells #[.slice A0_0 l0_0.length c0_0] 26 (0, 0)) (by (with_reducible repeat (first | refine blk_drewN ?_ _ | refine blk_drew ?_ | refine blk_alloc ?_ _)); exact BK889.out) hg (Kd.R_ne HO_6.out BK889.out (by decide))); have n2_ := Aside0.mk (blk_grown (g := gb890) (o := .cells #[.slice none 0 0] 26 (0, 0)) (by (with_reducible repeat (first | refine blk_drewN ?_ _ | refine blk_drew ?_ | refine blk_alloc ?_ _)); exact BK890.out) hg (Kd.R_ne HO_6.out BK890.out (by decide))); have n3_ := Aside0.mk (hb); have n4_ := Aside0.mk (ho); clear HO_7; clear BK889; clear BK890; clear HB; clear HO_6; have HO_7 := n0_; have BK889 := n1_; have BK890 := n2_; have HB := n3_; have HO910 := n4_; clear n0_ n1_ n2_ n3_ n4_; clear ho hb hg hat))
                          go_roundg k3
                          case measure => have := HJ2.out; have := HK2.out; have := HK3.out; omega
                          case rel => exact ⟨(y908), (wrap64 (x8_2 + 1)), (by first | rfl | (simp; done) | (simp [*]; done)), H', ⟨by have := HJ2.out; have := HK2.out; have := HK3.out; omega⟩, ⟨by (with_reducible repeat (first | apply Kd.R_alloc | apply Kd.R_drewN | apply Kd.R_drew)); exact HO910.out⟩, ⟨by (with_reducible repeat (first | apply Kd.R_alloc | apply Kd.R_drewN | apply Kd.R_drew)); exact Kd.R_mono HO_7.out (fun _ hk => hk.2)⟩, ⟨by (with_reducible repeat (first | refine blk_drewN ?_ _ | refine blk_drew ?_ | refine blk_alloc ?_ _)); exact BK889.out⟩, ⟨by (with_reducible repeat (first | refine blk_drewN ?_ _ | refine blk_drew ?_ | refine blk_alloc ?_ _)); exact BK890.out⟩, ⟨by repeat (first | (with_reducible first | exact HB.out | apply below_alloc | apply pw_below_drewN | apply below_drew1 | refine below_set ?_ GE889.out | refine below_set ?_ GE890.out) | exact HB.out)⟩⟩
                        · rw [if_neg c35] at H
                          exact absurd H (by simp)
                    · rw [if_neg c27] at H
                      exact absurd H (by simp)
                  · rw [if_neg c26] at H
                    exact absurd H (by simp)
            · rw [if_neg c24] at H
              have c24b0 : decide (x8_2 < (t896.length : Int)) = false := decide_eq_false c24
              clear c24
              replace H := Option.bind_eq_some_iff.mp H
              obtain ⟨⟨t899, t902⟩, A370, H⟩ := H
              replace H : (some (t899, t902)) = some (r1, r2) := H
              have A37 := Aside0.mk A370
              clear A370
              simp only [Option.some.injEq, Prod.mk.injEq] at H
              obtain ⟨rfl, rfl⟩ := H
              obtain ⟨Ao38, co38, eo38⟩ := Kd.R_slice HO_7.out
              subst eo38
              obtain ⟨Ao39, co39, eo39⟩ := Kd.R_slice HO_6.out
              subst eo39
              go_wp2_with (first | ((with_reducible refine gate_callee (f := 67) rfl ?_); refine goesL_ (some 60) rfl rfl Tryd.func67 (by kernel_rfl) rfl #[.slice Ao39 x6_2.length co39] rfl (by (try simp only [List.map_toArray, List.map_cons, List.map_nil]); first | done | rfl | (simp only [List.length_drop, List.length_take]; rfl)) ?_; (with_reducible refine (spec_l5Made.calls k2 _ _ x6_2 t899 t902 _ ?side1 ?side2 A37.out).mono ?_); (case side1 => repeat (first | exact (Kd.R_reads' HO_6.out).2.2 | (with_reducible refine Kd.C_alloc ?_ _) | (with_reducible refine Kd.C_drewN ?_ _) | (with_reducible refine Kd.C_drew ?_))); (case side2 => exact (Kd.R_reads' HO_6.out).2.1); rintro e w40 ⟨v900, rfl, ho0, hb⟩; refine ⟨_, rfl, ?_⟩; have n0_ := Aside0.mk (Kd.R_below (by (with_reducible repeat (first | apply Kd.R_alloc | apply Kd.R_drewN | apply Kd.R_drew)); exact HO_6.out) hb); have n1_ := Aside0.mk (Kd.R_below (by (with_reducible repeat (first | apply Kd.R_alloc | apply Kd.R_drewN | apply Kd.R_drew)); exact HO_7.out) hb); have n2_ := Aside0.mk (Kd.R_lower ho0 (below_size (by repeat (first | (with_reducible first | exact HB.out | apply below_alloc | apply pw_below_drewN | apply below_drew1 | refine below_set ?_ GE889.out | refine below_set ?_ GE890.out) | exact HB.out)))); have n3_ := Aside0.mk (blk_below (g := gb889) (o := .cells #[.slice A0_0 l0_0.length c0_0] 26 (0, 0)) (by (with_reducible repeat (first | refine blk_drewN ?_ _ | refine blk_drew ?_ | refine blk_alloc ?_ _)); exact BK889.out) hb); have n4_ := Aside0.mk (blk_below (g := gb890) (o := .cells #[.slice none 0 0] 26 (0, 0)) (by (with_reducible repeat (first | refine blk_drewN ?_ _ | refine blk_drew ?_ | refine blk_alloc ?_ _)); exact BK890.out) hb); have n5_ := Aside0.mk (below_step (by repeat (first | (with_reducible first | exact HB.out | apply below_alloc | apply pw_below_drewN | apply below_drew1 | refine below_set ?_ GE889.out | refine below_set ?_ GE890.out) | exact HB.out)) hb); clear HO_6; clear HO_7; clear BK889; clear BK890; clear HB; have HO_6 := n0_; have HO_7 := n1_; have HO901 := n2_; have BK889 := n3_; have BK890 := n4_; have HB := n5_; clear n0_ n1_ n2_ n3_ n4_ n5_; (try clear hb); (try clear hb2); (try clear hk); (try clear hi); (try clear ho0); obtain ⟨Ao41, co41, eo41⟩ := Kd.R_slice HO901.out; subst eo41; have hnb42 := NB890_889.out; have hnc42 := NB889_890.out; have hcz43_0 : w40.cell? ⟨gb890, 0, none⟩ = some (.slice none 0 0) := (blk_cell BK890.out 0).trans rfl; have hfz43_0 := blk_frozen BK890.out 0))
              refine bodyPost_ret (results_ct rfl _ _ gb890 26 #[.slice Ao41 t899.length co41] (0, 0) _ rfl (by (with_reducible repeat (first | refine blk_drewN ?_ _ | refine blk_drew ?_ | refine blk_alloc ?_ _)); refine blk_put (cs := #[.slice none 0 0]) ?_ 0 _ rfl; (with_reducible repeat (first | refine blk_drewN ?_ _ | refine blk_drew ?_ | refine blk_alloc ?_ _)); exact BK890.out) Tryd.underlying26 rfl (by kernel_rfl)) rfl ?_
              exact ⟨_, by first | rfl | (simp [errW_none, errW_some] <;> rfl) | (simp [*, errW_none, errW_some] <;> rfl), by (with_reducible repeat (first | apply Kd.R_alloc | apply Kd.R_drewN | apply Kd.R_drew)); exact Kd.R_mono (R_same_ (Kd.R_far (p := ⟨gb890, 0, none⟩) (Kd.R_types HO901.out BK890.out (by decide)) (fun _ hk => hk.2) (.slice Ao41 t899.length co41)) rfl) (fun _ hk => trivial), by repeat (first | (with_reducible first | exact HB.out | apply below_alloc | apply pw_below_drewN | apply below_drew1 | refine below_set ?_ GE889.out | refine below_set ?_ GE890.out) | exact HB.out)⟩
end Go.Proofs.YtefcbnlljpdjnaaDoor.Q
namespace Go.Proofs.YtefcbnlljpdjnaaDoor.Q
open Go.RowKit Go.Sort Go.Shelf Go.Proofs.YtefcbnlljpdjnaaDoorW.PrintWords Go.Proofs.YtefcbnlljpdjnaaDoorW.PrintLast Go.Proofs.YtefcbnlljpdjnaaDoorW.PrintMore
set_option linter.unusedVariables false
def Turns (g : Nat) (bs lb : Array Value) (f : ByteArray → ByteArray) (base : Nat) (w : World) : Prop :=
  ∀ (x : ByteArray) (W : World), x.size ≤ 12 → Below base w W → Calls Tryd.prog g (bs ++ #[.string x] ++ lb) W fun e W' => e = .returned (.string (f x)) ∧ Below W.heap.size W W'
theorem R_new0 (w : World) (base : Nat) (hb : base ≤ w.heap.size) : Kd.R Kd.string 9 (w.alloc (.cells #[] 9)) base (fun _ => True) (.slice (some ⟨w.heap.size, 0, none⟩) 0 0) [] :=
  R_of_owns ⟨rfl, .inr ⟨w.heap.size, 0, #[], rfl, hb, Go.heap_alloc_new w _, Nat.le_refl _, Nat.zero_le _, rfl, rfl⟩⟩ (fun _ _ => trivial)
def mappedW (f : ByteArray → ByteArray) (l : List IN) : List IN × Bool := if isTrieW l then madeW ((wordsV l).map f) else ([], false)
set_option maxHeartbeats 2000000 in
set_option maxRecDepth 100000 in
theorem mapped_gen (g : Nat) (bs lb : Array Value) (f : ByteArray → ByteArray) (eg : Enters g) (l : List IN) (A : Option Addr) (c : Nat) (w : World) (hr : Kd.C k76 w A l.length l) (hc : l.length ≤ c) (ht : Turns g bs lb f w.heap.size w) :
    Calls Tryd.prog 74 #[.agg #[.slice A l.length c], .func (.func g) bs lb] w fun e w' => ∃ v0 : Value, e = .returned (.tuple #[.agg #[v0], .bool (mappedW f l).2]) ∧ Kd.R k76 76 w' w.heap.size (fun _ => True) v0 (mappedW f l).1 ∧ Below w.heap.size w w' := by
  have HB0 := Aside0.mk (((Below.refl w.heap.size w).alloc (Nat.le_refl _) (.cells #[.slice A l.length c] 26)).alloc (by simp) (.cells #[.slice none 0 0] 26))
  have HX := Aside0.mk (box_two w (.slice A l.length c) (.slice none 0 0) 26 26)
  have HR0 := Aside0.mk hr
  have HC0 := Aside0.mk hc
  have HT := Aside0.mk ht
  obtain ⟨k0, hk0⟩ := (isTrie_ev l).ex
  have HK0 := Aside0.mk hk0
  clear hr hc hk0 ht
  rcases trie_split l with ht0 | ⟨wa, hva, rfl, ht0, hwa⟩
  · have hmw : mappedW f l = ([], false) := by unfold mappedW; rw [ht0]; rfl
    rw [hmw]
    rw [ht0] at HK0
    clear ht0 hmw
    go_enter Tryd.func74, Tryd.ntmps74
    go_wp2_with (go_at_call 68; refine (impl_isTrie.calls k0 A c l false _ (Kd.C_below HR0.out HB0.out) HC0.out HK0.out).mono ?_; rintro e w1 ⟨rfl, hb⟩; have HQ1 := Aside0.mk (show Below (w.heap.size + 1 + 1) _ w1 by simpa using hb); have hx := (HX.out w1 HQ1.out).2; have hxc := box_at hx; have hxf := box_frozen hx; have HXX := Aside0.mk hx; clear hb hx)
    have hfin := blk_put HXX.out 0 (.slice none 0 0) rfl
    refine bodyPost_ret (results_ct rfl _ _ (w.heap.size + 1) 26 #[.slice none 0 0] (0, 0) _ rfl hfin Tryd.underlying26 rfl (by kernel_rfl)) rfl ?_
    exact ⟨_, rfl, Kd.R_nil _ _ _ _ _, (HB0.out.trans (HQ1.out.mono (by omega))).setCell (by simp) _⟩
  · have hmw : mappedW f (trieW wa) = madeW (wa.map f) := by unfold mappedW; rw [ht0, hwa]; rfl
    rw [ht0] at HK0
    have HVA := Aside0.mk hva
    obtain ⟨k2, hk2⟩ := (implWords hva).ex
    have HK2 := Aside0.mk hk2
    have hlen := hva.len
    have HM := Aside0.mk (impl5 (wa.map f) (by rw [List.length_map]; omega))
    obtain ⟨m1, m2, hm⟩ : ∃ m1 m2, madeW (wa.map f) = (m1, m2) := ⟨_, _, rfl⟩
    rw [hmw, hm]
    rw [hm] at HM
    clear ht0 hva hk2 hwa hm hmw
    unfold Enters at eg
    go_enter Tryd.func74, Tryd.ntmps74
    go_wp2_with (first
      | (go_at_call 68; refine (impl_isTrie.calls k0 A c _ true _ (Kd.C_below HR0.out HB0.out) HC0.out HK0.out).mono ?_; rintro e w1 ⟨rfl, hb⟩; have HQ1 := Aside0.mk (show Below (w.heap.size + 1 + 1) _ w1 by simpa using hb); have HQ2 := Aside0.mk (HQ1.out.alloc (bsz2 HQ1.out) (.cells #[] 9)); have hx2 := box_at (HX.out _ HQ2.out).1; have HO0 := Aside0.mk (R_new0 w1 (w.heap.size + 1 + 1) (bsz2 HQ1.out)); clear hb)
      | (go_at_call 57; refine (impl_Trie_words.calls k2 A c _ wa _ (Kd.C_below HR0.out (HB0.out.trans (HQ2.out.mono (by omega)))) HC0.out HK2.out).mono ?_; rintro e w3 ⟨v3, rfl, hr, hb⟩; have HO3 := Aside0.mk (Kd.R_elder' HO0.out (Kd.R_base hr) hb); have HW3 := Aside0.mk (Kd.R_lower (Kd.R_new' hr (Kd.R_lt HO0.out)) (bsz2 HQ2.out)); have HQ3 := Aside0.mk (HQ2.out.trans (hb.mono (bsz2 HQ2.out))); obtain ⟨A3, c3, rfl⟩ := Kd.R_slice hr; clear hr hb))
    go_loopw [6, 17] (fun v i wr => ∃ (u : Value) (k : Nat), u = v ∧ k ≤ wa.length ∧ i = .int .i64 k ∧ Aside0 (Kd.R Kd.string 9 wr (w.heap.size + 1 + 1) (fun j => True ∧ some j ≠ (Value.slice A3 wa.length c3).ownBlock) v ((wa.take k).map f)) ∧ Aside0 (Kd.R Kd.string 9 wr (w.heap.size + 1 + 1) (fun j => True ∧ some j ≠ v.ownBlock) (.slice A3 wa.length c3) wa) ∧ Aside0 (Below (w.heap.size + 1 + 1) ((w.alloc (.cells #[.slice A (trieW wa).length c] 26)).alloc (.cells #[.slice none 0 0] 26)) wr))
      (fun _ i _ => wa.length - (intOf i).toNat)
    case atStart => exact ⟨_, 0, rfl, Nat.zero_le _, rfl, HO3, HW3, HQ3⟩
    case round =>
      obtain ⟨u, k, hu, hk, rfl, HO, HW, HB⟩ := hrel
      subst hu
      by_cases hlt : k < wa.length
      · obtain ⟨ad, e0, hx⟩ := Kd.at_string (Kd.R_reads' HW.out).2.2 (k : Int) (by omega) (by omega)
        cases e0
        simp only [Int.toNat_natCast] at hx
        have hm : rdOf ByteArray.empty wa (k : Int) ∈ wa := by rw [rd_nat wa hlt]; exact List.getElem_mem hlt
        have e1 : (wa.take (k + 1)).map f = (wa.take k).map f ++ [f (rdOf ByteArray.empty wa (k : Int))] := by rw [take_rd wa k hlt, List.map_append]; rfl
        have E1 := Aside0.mk e1
        have h12 := (HVA.out.ok _ hm).1
        have hcall := HT.out (rdOf ByteArray.empty wa (k : Int)) wr h12 (HB0.out.trans (HB.out.mono (by omega)))
        generalize rdOf ByteArray.empty wa (k : Int) = x at hx hcall E1
        generalize f x = y at hcall E1
        have hyl : ((wa.take k).map f).length ≤ 40 := by rw [List.length_map, List.length_take]; omega
        generalize hxs : (wa.take k).map f = xs at HO E1 hyl
        clear hm h12 hxs e1
        go_wp2_with (first
          | (go_at_fn g; refine hcall.mono ?_; rintro e w4 ⟨rfl, hb⟩; have HO4 := Aside0.mk (Kd.R_below HO.out hb); have HW4 := Aside0.mk (Kd.R_below HW.out hb); have HB4 := Aside0.mk (HB.out.trans (hb.mono (bsz2 HB.out))); clear hb)
          | (at_builtin; refine Kd.R_append Kd.string (w0 := (w.alloc (.cells #[.slice A (trieW wa).length c] 26)).alloc (.cells #[.slice none 0 0] 26)) (w.heap.size + 1 + 1) rfl (.tmp 21) (.tmp 25) 22 9 (.string ⟨#[]⟩) 16 rfl Tryd.underlying22 info9 rfl (by decide) (by omega) u xs y [.string y] (fun j => True ∧ some j ≠ (Value.slice (some ad) wa.length c3).ownBlock) (fun _ => False) rfl rfl rfl (fun _ hk => hk.elim) (fun j hj => ⟨trivial, Kd.fresh' (Kd.R_lt HW4.out) j hj⟩) HO4.out HB4.out (bsz2 HB4.out) (by omega) ?_; intro v1 w5 ho hb hg hat; have HO5 := Aside0.mk ho; have HB5 := Aside0.mk hb; have HW5 := Aside0.mk (Kd.R_after (ok := fun _ => True) HW4.out hg hat); clear ho hb hg hat))
        go_roundw
        case rel => exact ⟨_, k + 1, rfl, by omega, by go_num, ⟨by rw [E1.out]; exact HO5.out⟩, HW5, HB5⟩
        case measure => simp [intOf]; omega
      · obtain rfl : k = wa.length := by omega
        rw [List.take_length] at HO
        generalize wa.map f = ms at HO HM
        obtain ⟨Ao, co, rfl⟩ := Kd.R_slice HO.out
        go_wp2_with (go_at_call 69; refine (impl_madeOf.calls Ao co ms m1 m2 _ (Kd.R_reads' HO.out).2.2 (Kd.R_reads' HO.out).2.1 HM.out).mono ?_; rintro e w5 ⟨v5, rfl, hr, hb⟩; obtain ⟨A5, c5, rfl⟩ := Kd.R_slice hr; have HQ5 := Aside0.mk (HB.out.trans (hb.mono (bsz2 HB.out))); have hx := (HX.out w5 HQ5.out).2; have hxc := box_at hx; have hxf := box_frozen hx; have HXX := Aside0.mk hx; have HR5 := Aside0.mk (Kd.R_lower hr (bsz2 HB.out)); clear hr hb hx)
        have hfin := blk_put HXX.out 0 (.slice A5 m1.length c5) rfl
        refine bodyPost_ret (results_ct rfl _ _ (w.heap.size + 1) 26 #[.slice A5 m1.length c5] (0, 0) _ rfl hfin Tryd.underlying26 rfl (by kernel_rfl)) rfl ?_
        exact ⟨_, rfl, Kd.R_lower (Kd.R_mono (Kd.R_move (Kd.R_bound HR5.out) (fun g hg => Below.heap_setCell _ _ _ _ (by have := hg.2.1; simp; omega))) (fun _ hg => trivial)) (by omega), (HB0.out.trans (HQ5.out.mono (by omega))).setCell (by simp) _⟩
end Go.Proofs.YtefcbnlljpdjnaaDoor.Q
namespace Go.Proofs.YtefcbnlljpdjnaaDoor.Q
open Go.RowKit Go.Sort Go.Shelf Go.Proofs.YtefcbnlljpdjnaaDoorW.PrintWords Go.Proofs.YtefcbnlljpdjnaaDoorW.PrintLast Go.Proofs.YtefcbnlljpdjnaaDoorW.PrintMore
set_option linter.unusedVariables false
def shiftL (k c : Int) : Int := Int.tmod (wrap64 ((c - 97) % 256 + k)) 26
def shiftN (k : Int) (x : ByteArray) : Nat → ByteArray
  | 0 => ⟨#[]⟩
  | n + 1 => shiftN k x n ++ letterW (shiftL k (bt x (n : Int)))
def shiftB (k : Int) (x : ByteArray) : ByteArray := shiftN k x x.size
theorem shiftN_size (k : Int) (x : ByteArray) : ∀ n, (shiftN k x n).size = n
  | 0 => rfl
  | n + 1 => by rw [shiftN, size_app, shiftN_size k x n, letterW_size]
theorem shift_eq (k b : Int) : IntKind.i64.wrap (IntKind.i64.wrap (IntKind.u8.wrap (b - 97)) + k) = wrap64 ((b - 97) % 256 + k) := by
  have e1 : ∀ x : Int, IntKind.u8.wrap x = x % 256 := fun x => rfl
  rw [e1, i64_w, i64_w]
  have e2 : wrap64 ((b - 97) % 256) = (b - 97) % 256 := by unfold wrap64; omega
  rw [e2]
theorem bt_of (x : ByteArray) (n : Nat) (h : n < x.size) : bt x (n : Int) = ((x[n]'h).toNat : Int) := by simp [bt, h]
set_option maxHeartbeats 1000000 in
theorem shift1_turns (k : Int) (B base : Nat) (w : World) (hB : B < base) (hbs : base ≤ w.heap.size) (hbox : w.heap[B]? = some (.cells #[.int .i64 k] 3 (0, 0))) :
    Turns 75 #[] #[.pointer (some ⟨B, 0, none⟩)] (shiftB k) base w := by
  intro x W h12 hW
  have hcell : Aside0 (∀ W2, Below W.heap.size W W2 → W2.cell? ⟨B, 0, none⟩ = some (.int .i64 k)) := ⟨fun W2 h => (h.cell (p := ⟨B, 0, none⟩) (by have := hW.size; show B < _; omega)).trans (box_at ((hW.block B hB).trans hbox))⟩
  clear hbox hW
  show Calls Tryd.prog 75 #[.string x, .pointer (some ⟨B, 0, none⟩)] W _
  go_enter Tryd.func75, Tryd.ntmps75
  go_wp2
  go_loopw [4, 8] (fun v i wr => ∃ n : Nat, n ≤ x.size ∧ v = .string (shiftN k x n) ∧ i = .int .i64 n ∧ Aside0 (Below W.heap.size W wr)) (fun _ i _ => x.size - (intOf i).toNat)
  case atStart => exact ⟨0, Nat.zero_le _, rfl, rfl, ⟨Below.refl _ _⟩⟩
  case round =>
    obtain ⟨n, hn, rfl, rfl, HB⟩ := hrel
    by_cases hlt : n < x.size
    · have hc := hcell.out wr HB.out
      have hsz := shiftN_size k x n
      have hs2 : shiftN k x (n + 1) = shiftN k x n ++ letterW (shiftL k (bt x (n : Int))) := rfl
      have HS2 := Aside0.mk hs2
      generalize shiftN k x n = s at hsz HS2
      have hcc : ∀ E : Int, (9223372036854775807 < s.size + (letterW E).size) = False := fun E => eq_false (by rw [hsz, letterW_size]; omega)
      clear hs2 hsz
      go_wp2
      have hq := HB.out
      have hbt : (x[n]'hlt).toNat < 256 := (x[n]'hlt).toNat_lt
      go_region_held3 (fun w' => w'.cell? ⟨B, 0, none⟩ = some (.int .i64 k) ∧ Below W.heap.size W w') ((first | exact ⟨by assumption, by assumption⟩ | exact ⟨by simpa using hc, hq.drew⟩))
        ((go_at_call 76; (try go_split_ands); refine (impl_letter.calls _ (letterW _) _ rfl).mono ?_; rintro e w2 ⟨rfl, hb⟩; have hq2 := Below.trans (a := W) (by assumption) (hb.mono (Below.size (w := W) (by assumption))); have hc2 := hcell.out w2 hq2; clear hb))
      all_goals go_wp2
      all_goals refine ⟨⟨n + 1, by omega, ?_, by go_num, ⟨hq2⟩⟩, by simp [intOf]; omega⟩
      all_goals rw [HS2.out, shift_eq, bt_of x n hlt, shiftL]
    · obtain rfl : n = x.size := by omega
      go_wp2
      go_ret
      exact ⟨rfl, HB.out⟩
theorem shift1_enters : Enters 75 := enters_of Tryd.func75 (by kernel_rfl) rfl
def impl_ShiftTrie.f (l0_0 : List IN) (a1 : Int) : Option (List IN × Bool) := some (if 0 ≤ a1 ∧ a1 ≤ 25 then mappedW (shiftB a1) l0_0 else ([], false))
set_option maxHeartbeats 2000000 in
theorem impl_ShiftTrie.calls (A0_0 : Option Addr) (c0_0 : Nat) (l0_0 : List IN) (a1 : Int) (r1 : List IN) (r2 : Bool) (w : World) (hr0_0 : Kd.C k76 w A0_0 l0_0.length l0_0) (hc0_0 : l0_0.length ≤ c0_0) (h : impl_ShiftTrie.f l0_0 a1 = some (r1, r2)) :
    Calls Tryd.prog 38 #[.agg #[.slice A0_0 l0_0.length c0_0], .int .i64 a1] w fun e w' => ∃ v0_ : Value, e = .returned (.tuple #[.agg #[v0_], .bool r2]) ∧ Kd.R k76 76 w' w.heap.size (fun _ => True) v0_ r1 ∧ Below w.heap.size w w' := by
  unfold impl_ShiftTrie.f at h
  have HB0 := Aside0.mk ((((Below.refl w.heap.size w).alloc (Nat.le_refl _) (.cells #[.slice A0_0 l0_0.length c0_0] 26)).alloc (by simp) (.cells #[.int .i64 a1] 3)).alloc (by simp; omega) (.cells #[.slice none 0 0] 26))
  have HX := Aside0.mk (box_three w (.slice A0_0 l0_0.length c0_0) (.int .i64 a1) (.slice none 0 0) 26 3 26)
  have HR0 := Aside0.mk hr0_0
  have HC0 := Aside0.mk hc0_0
  have HI := Aside0.mk (in_eq a1 0 25)
  clear hr0_0 hc0_0
  by_cases hin : 0 ≤ a1 ∧ a1 ≤ 25
  · rw [if_pos hin] at h
    rw [decide_eq_true hin] at HI
    obtain ⟨q1, q2, hq⟩ : ∃ q1 q2, mappedW (shiftB a1) l0_0 = (q1, q2) := ⟨_, _, rfl⟩
    have HG : Aside0 (∀ w1, Below (w.heap.size + 1 + 1 + 1) (((w.alloc (.cells #[.slice A0_0 l0_0.length c0_0] 26)).alloc (.cells #[.int .i64 a1] 3)).alloc (.cells #[.slice none 0 0] 26)) w1 →
        Calls Tryd.prog 74 #[.agg #[.slice A0_0 l0_0.length c0_0], .func (.func 75) #[] #[.pointer (some ⟨w.heap.size + 1, 0, none⟩)]] w1 fun e w' => ∃ v0 : Value, e = .returned (.tuple #[.agg #[v0], .bool q2]) ∧ Kd.R k76 76 w' w1.heap.size (fun _ => True) v0 q1 ∧ Below w1.heap.size w1 w') := ⟨fun w1 hb => by
      have := mapped_gen 75 #[] #[.pointer (some ⟨w.heap.size + 1, 0, none⟩)] (shiftB a1) shift1_enters l0_0 A0_0 c0_0 w1 (Kd.C_below HR0.out (HB0.out.trans (hb.mono (by omega)))) HC0.out
        (shift1_turns a1 (w.heap.size + 1) w1.heap.size w1 (by have := bsz3 hb; omega) (Nat.le_refl _) (HX.out w1 hb).2.1)
      rwa [hq] at this⟩
    rw [hq] at h
    injection h with h
    injection h with h1 h2
    subst h1; subst h2
    clear hq hin
    go_enter Tryd.func38, Tryd.ntmps38
    go_wp2_with (first
      | (go_at_call 73; refine (impl_in.calls a1 0 25 true _ HI.out).mono ?_; rintro e w1 ⟨rfl, ⟨nd, rfl⟩⟩; have HQ1 := Aside0.mk (show Below (w.heap.size + 1 + 1 + 1) _ ((((w.alloc (.cells #[.slice A0_0 l0_0.length c0_0] 26)).alloc (.cells #[.int .i64 a1] 3)).alloc (.cells #[.slice none 0 0] 26)).drewN nd) from below_drewN (Below.refl _ _) nd); have hx1 := box_at (HX.out _ HQ1.out).1; have hx2 := box_at (HX.out _ HQ1.out).2.1)
      | (go_at_call 74; refine (HG.out _ HQ1.out).mono ?_; rintro e w2 ⟨v2, rfl, hr, hb⟩; obtain ⟨A2, c2, rfl⟩ := Kd.R_slice hr; have HQ2 := Aside0.mk (HQ1.out.trans (hb.mono (bsz3 HQ1.out))); have hx := (HX.out w2 HQ2.out).2.2; have hxc := box_at hx; have hxf := box_frozen hx; have HXX := Aside0.mk hx; have HR2 := Aside0.mk (Kd.R_lower hr (bsz3 HQ1.out)); clear hr hb hx))
    have hfin := blk_put HXX.out 0 (.slice A2 q1.length c2) rfl
    refine bodyPost_ret (results_ct rfl _ _ (w.heap.size + 1 + 1) 26 #[.slice A2 q1.length c2] (0, 0) _ rfl hfin Tryd.underlying26 rfl (by kernel_rfl)) rfl ?_
    exact ⟨_, rfl, Kd.R_lower (Kd.R_mono (Kd.R_move (Kd.R_bound HR2.out) (fun g hg => Below.heap_setCell _ _ _ _ (by have := hg.2.1; simp; omega))) (fun _ hg => trivial)) (by omega), (HB0.out.trans (HQ2.out.mono (by omega))).setCell (by simp; omega) _⟩
  · rw [if_neg hin] at h
    rw [decide_eq_false hin] at HI
    injection h with h
    injection h with h1 h2
    subst h1; subst h2
    clear hin
    go_enter Tryd.func38, Tryd.ntmps38
    go_wp2_with (go_at_call 73; refine (impl_in.calls a1 0 25 false _ HI.out).mono ?_; rintro e w1 ⟨rfl, ⟨nd, rfl⟩⟩; have HQ1 := Aside0.mk (show Below (w.heap.size + 1 + 1 + 1) _ ((((w.alloc (.cells #[.slice A0_0 l0_0.length c0_0] 26)).alloc (.cells #[.int .i64 a1] 3)).alloc (.cells #[.slice none 0 0] 26)).drewN nd) from below_drewN (Below.refl _ _) nd); have hx := (HX.out _ HQ1.out).2.2; have hxc := box_at hx; have hxf := box_frozen hx; have HXX := Aside0.mk hx; clear hx)
    have hfin := blk_put HXX.out 0 (.slice none 0 0) rfl
    refine bodyPost_ret (results_ct rfl _ _ (w.heap.size + 1 + 1) 26 #[.slice none 0 0] (0, 0) _ rfl hfin Tryd.underlying26 rfl (by kernel_rfl)) rfl ?_
    exact ⟨_, rfl, Kd.R_nil _ _ _ _ _, (HB0.out.trans (HQ1.out.mono (by omega))).setCell (by simp; omega) _⟩
end Go.Proofs.YtefcbnlljpdjnaaDoor.Q
namespace Go.Proofs.YtefcbnlljpdjnaaDoor.Q
open Go.RowKit Go.Proofs.YtefcbnlljpdjnaaDoorW.PrintWords Go.Proofs.YtefcbnlljpdjnaaDoorW.PrintLast Go.Proofs.YtefcbnlljpdjnaaDoorW.PrintMore
attribute [local go_sem] run_field_25 run_field_26 run_field_35 run_field_36 isSome_setCell max2_int min2_int max_two min_two max_three min_three max_four min_four   -- for this text's walks alone
set_option linter.unusedVariables false
set_option linter.unusedSimpArgs false
mutual
def laws_FnExactShiftTrie.j0 : Nat → Int → Bool → Bool → Bool → List (S81) → List (S76) → List (S76) → List (S76) → Option (Bool)
  | 0, _, _, _, _, _, _, _, _ => none
  | k + 1, x1, x7, x10, x44, x912000, x921000, x925000, x930000 => if x44 = true then (some false) else ((laws_toTrie.f k x912000).bind fun t931 => ((laws_eqTrie.f k x925000 t931).bind fun t934 => (if t934 = true then ((laws_markTrie.f k x925000 1).bind fun bt935 => (if bt935.1 < 0 then (laws_FnExactShiftTrie.j1 k x1 x7 true x912000 x921000 x930000) else ((laws_eqTrie.f k x930000 x921000).bind fun t937 => (if t937 = true then (laws_FnExactShiftTrie.j1 k x1 x7 (x10 != x7) x912000 x921000 x930000) else (laws_FnExactShiftTrie.j1 k x1 x7 true x912000 x921000 x930000))))) else (some false))))
def laws_FnExactShiftTrie.j1 : Nat → Int → Bool → Bool → List (S81) → List (S76) → List (S76) → Option (Bool)
  | 0, _, _, _, _, _, _ => none
  | k + 1, x1, x7, x65, x912000, x921000, x930000 => if x65 = true then (some false) else ((laws_markTrie.f k x930000 1).bind fun bt938 => ((laws_heldTrie.f k bt938.2 1).bind fun t940 => (if t940 < 0 then (some false) else (if t940 = bt938.1 then ((laws_toTrie.f k x912000).bind fun t941 => ((impl_ShiftTrie.f t941 x1).bind fun bt944 => ((laws_eqTrie.f k bt944.1 x921000).bind fun t949 => (if t949 = true then (laws_FnExactShiftTrie.j2 k bt938.1 (bt944.2 != x7) bt938.2) else (laws_FnExactShiftTrie.j2 k bt938.1 true bt938.2))))) else (some false)))))
def laws_FnExactShiftTrie.j2 : Nat → Int → Bool → List (S76) → Option (Bool)
  | 0, _, _, _ => none
  | k + 1, x12, x92, x930000 => if x92 = true then (some false) else ((laws_heldTrie.f k x930000 1).bind fun t950 => (if t950 < 0 then (some false) else (if t950 = x12 then (some true) else (some false))))
end
def laws_FnExactShiftTrie.f (k : Nat) (l0_0 : List (S81)) (a1 : Int) : Option (Bool) := (laws_szTrie.f l0_0 1048576).bind fun t912 => (if t912 < 0 then (some true) else ((laws_toTrie.f k l0_0).bind fun t913 => ((spec_ShiftTrie.f k t913 a1).bind fun bt916 => ((laws_toTrie.f k l0_0).bind fun t921 => ((impl_ShiftTrie.f t921 a1).bind fun bt925 => ((laws_eqTrie.f k bt925.1 bt916.1).bind fun t930 => (if t930 = true then (laws_FnExactShiftTrie.j0 k a1 bt916.2 bt925.2 (bt925.2 != bt916.2) l0_0 bt916.1 t921 bt925.1) else (laws_FnExactShiftTrie.j0 k a1 bt916.2 bt925.2 true l0_0 bt916.1 t921 bt925.1))))))))
set_option maxHeartbeats 8000000 in
set_option maxRecDepth 100000 in
theorem laws_FnExactShiftTrie.calls (k : Nat) (A0_0 : Option Addr) (c0_0 : Nat) (l0_0 : List (S81)) (a1 : Int) (r : Bool) (w : World) (hr0_0 : Kd.C k81 w A0_0 l0_0.length l0_0) (hc0_0 : l0_0.length ≤ c0_0) (h : laws_FnExactShiftTrie.f k l0_0 a1 = some true) :
    Calls Tryd.prog 11 #[.agg #[.slice A0_0 l0_0.length c0_0], .int .i64 a1] w fun e w' => e = .returned (.bool true) ∧ Below w.heap.size w w' := by
  have hu36 := Tryd.underlying36
  have hu26 := Tryd.underlying26
  have HR0_0 := Aside0.mk hr0_0
  have HC0_0 := Aside0.mk hc0_0
  clear hr0_0 hc0_0
  have HB := Aside0.mk (Below.refl w.heap.size w)
  have H : ((laws_szTrie.f l0_0 1048576).bind fun t912 => (if t912 < 0 then (some true) else ((laws_toTrie.f k l0_0).bind fun t913 => ((spec_ShiftTrie.f k t913 a1).bind fun bt916 => ((laws_toTrie.f k l0_0).bind fun t921 => ((impl_ShiftTrie.f t921 a1).bind fun bt925 => ((laws_eqTrie.f k bt925.1 bt916.1).bind fun t930 => (if t930 = true then (laws_FnExactShiftTrie.j0 k a1 bt916.2 bt925.2 (bt925.2 != bt916.2) l0_0 bt916.1 t921 bt925.1) else (laws_FnExactShiftTrie.j0 k a1 bt916.2 bt925.2 true l0_0 bt916.1 t921 bt925.1))))))))) = some true := h
  clear h
  replace H := Option.bind_eq_some_iff.mp H
  obtain ⟨t912, A30, H⟩ := H
  replace H : (if t912 < 0 then (some true) else ((laws_toTrie.f k l0_0).bind fun t913 => ((spec_ShiftTrie.f k t913 a1).bind fun bt916 => ((laws_toTrie.f k l0_0).bind fun t921 => ((impl_ShiftTrie.f t921 a1).bind fun bt925 => ((laws_eqTrie.f k bt925.1 bt916.1).bind fun t930 => (if t930 = true then (laws_FnExactShiftTrie.j0 k a1 bt916.2 bt925.2 (bt925.2 != bt916.2) l0_0 bt916.1 t921 bt925.1) else (laws_FnExactShiftTrie.j0 k a1 bt916.2 bt925.2 true l0_0 bt916.1 t921 bt925.1)))))))) = some true := H
  have A3 := Aside0.mk A30
  clear A30
  by_cases c4 : t912 < 0
  · rw [if_pos c4] at H
    have c4b0 : decide (t912 < 0) = true := decide_eq_true c4
    clear c4
    (first | (obtain rfl := Option.some.inj H) | (have hH_ := Option.some.inj H; try simp only [hH_]))
    go_enter Tryd.func11, Tryd.ntmps11
    go_wp2_with (first | ((with_reducible refine gate_dst (N := 2) rfl ?_); refine box_event ?hg (N := 2) ?hd (cs := #[.slice A0_0 l0_0.length c0_0]) (t := 36) ?hr ?_; (case hd => rfl); (case hg => rfl); (case hr => first | (go_simp; done) | (go_simp; rfl)); intro gb911 hg w5 hbox hb; have n0_ := Aside0.mk (below_step (by repeat (first | (with_reducible first | exact HB.out | apply below_alloc | apply pw_below_drewN | apply below_drew1) | exact HB.out)) hb); have n1_ := Aside0.mk (hbox); have n2_ := Aside0.mk ((by rw [hg]; exact (below_size (by repeat (first | (with_reducible first | exact HB.out | apply below_alloc | apply pw_below_drewN | apply below_drew1) | exact HB.out))) : w.heap.size ≤ gb911)); have n3_ := Aside0.mk ((by rw [hg]; exact (below_size (by repeat (first | (with_reducible first | exact HB.out | apply below_alloc | apply pw_below_drewN | apply below_drew1) | exact HB.out))) : w.heap.size ≤ gb911)); clear HB; have HB := n0_; have BK911 := n1_; have GW911 := n2_; have GE911 := n3_; clear n0_ n1_ n2_ n3_; clear hb hbox hg; have hcz6_0 : w5.cell? ⟨gb911, 0, none⟩ = some (.slice A0_0 l0_0.length c0_0) := (blk_cell BK911.out 0).trans rfl; have hfz6_0 := blk_frozen BK911.out 0) | ((with_reducible refine gate_callee (f := 21) rfl ?_); refine goesL_ (some 18) rfl rfl Tryd.func21 (by kernel_rfl) rfl #[.agg #[.slice A0_0 l0_0.length c0_0], .int .i64 1048576] rfl (by (try simp only [List.map_toArray, List.map_cons, List.map_nil]); first | done | rfl | (simp only [List.length_drop, List.length_take]; rfl)) ?_; (with_reducible refine (laws_szTrie.calls _ _ l0_0 1048576 t912 _ ?side1 ?side2 A3.out).mono ?_); (case side1 => repeat (first | exact (Kd.C_below HR0_0.out HB.out) | (with_reducible refine Kd.C_alloc ?_ _) | (with_reducible refine Kd.C_drewN ?_ _) | (with_reducible refine Kd.C_drew ?_))); (case side2 => exact HC0_0.out); rintro e w7 ⟨rfl, hb⟩; refine ⟨_, rfl, ?_⟩; have n0_ := Aside0.mk (blk_below (g := gb911) (o := .cells #[.slice A0_0 l0_0.length c0_0] 36 (0, 0)) (by (with_reducible repeat (first | refine blk_drewN ?_ _ | refine blk_drew ?_ | refine blk_alloc ?_ _)); exact BK911.out) hb); have n1_ := Aside0.mk (below_step (by repeat (first | (with_reducible first | exact HB.out | apply below_alloc | apply pw_below_drewN | apply below_drew1 | refine below_set ?_ GE911.out) | exact HB.out)) hb); clear BK911; clear HB; have BK911 := n0_; have HB := n1_; clear n0_ n1_; (try clear hb); (try clear hb2); (try clear hk); (try clear hi)))
    go_ret
    exact ⟨by first | rfl | (simp [errW_none, errW_some] <;> rfl) | (simp [*, errW_none, errW_some] <;> rfl), by repeat (first | (with_reducible first | exact HB.out | apply below_alloc | apply pw_below_drewN | apply below_drew1 | refine below_set ?_ GE911.out) | exact HB.out)⟩
  · rw [if_neg c4] at H
    have c4b0 : decide (t912 < 0) = false := decide_eq_false c4
    clear c4
    replace H := Option.bind_eq_some_iff.mp H
    obtain ⟨t913, A80, H⟩ := H
    replace H : ((spec_ShiftTrie.f k t913 a1).bind fun bt916 => ((laws_toTrie.f k l0_0).bind fun t921 => ((impl_ShiftTrie.f t921 a1).bind fun bt925 => ((laws_eqTrie.f k bt925.1 bt916.1).bind fun t930 => (if t930 = true then (laws_FnExactShiftTrie.j0 k a1 bt916.2 bt925.2 (bt925.2 != bt916.2) l0_0 bt916.1 t921 bt925.1) else (laws_FnExactShiftTrie.j0 k a1 bt916.2 bt925.2 true l0_0 bt916.1 t921 bt925.1)))))) = some true := H
    have A8 := Aside0.mk A80
    clear A80
    replace H := Option.bind_eq_some_iff.mp H
    obtain ⟨⟨t916, t919⟩, A90, H⟩ := H
    replace H : ((laws_toTrie.f k l0_0).bind fun t921 => ((impl_ShiftTrie.f t921 a1).bind fun bt925 => ((laws_eqTrie.f k bt925.1 t916).bind fun t930 => (if t930 = true then (laws_FnExactShiftTrie.j0 k a1 t919 bt925.2 (bt925.2 != t919) l0_0 t916 t921 bt925.1) else (laws_FnExactShiftTrie.j0 k a1 t919 bt925.2 true l0_0 t916 t921 bt925.1))))) = some true := H
    have A9 := Aside0.mk A90
    clear A90
    replace H := Option.bind_eq_some_iff.mp H
    obtain ⟨t921, A100, H⟩ := H
    replace H : ((impl_ShiftTrie.f t921 a1).bind fun bt925 => ((laws_eqTrie.f k bt925.1 t916).bind fun t930 => (if t930 = true then (laws_FnExactShiftTrie.j0 k a1 t919 bt925.2 (bt925.2 != t919) l0_0 t916 t921 bt925.1) else (laws_FnExactShiftTrie.j0 k a1 t919 bt925.2 true l0_0 t916 t921 bt925.1)))) = some true := H
    have A10 := Aside0.mk A100
    clear A100
    replace H := Option.bind_eq_some_iff.mp H
    obtain ⟨⟨t925, t928⟩, A110, H⟩ := H
    replace H : ((laws_eqTrie.f k t925 t916).bind fun t930 => (if t930 = true then (laws_FnExactShiftTrie.j0 k a1 t919 t928 (t928 != t919) l0_0 t916 t921 t925) else (laws_FnExactShiftTrie.j0 k a1 t919 t928 true l0_0 t916 t921 t925))) = some true := H
    have A11 := Aside0.mk A110
    clear A110
    have HC12 := Aside0.mk H
    clear H
    go_enter Tryd.func11, Tryd.ntmps11
    go_upto_region 8 with (first | ((with_reducible refine gate_dst (N := 2) rfl ?_); refine box_event ?hg (N := 2) ?hd (cs := #[.slice A0_0 l0_0.length c0_0]) (t := 36) ?hr ?_; (case hd => rfl); (case hg => rfl); (case hr => first | (go_simp; done) | (go_simp; rfl)); intro gb911 hg w13 hbox hb; have n0_ := Aside0.mk (below_step (by repeat (first | (with_reducible first | exact HB.out | apply below_alloc | apply pw_below_drewN | apply below_drew1) | exact HB.out)) hb); have n1_ := Aside0.mk (hbox); have n2_ := Aside0.mk ((by rw [hg]; exact (below_size (by repeat (first | (with_reducible first | exact HB.out | apply below_alloc | apply pw_below_drewN | apply below_drew1) | exact HB.out))) : w.heap.size ≤ gb911)); have n3_ := Aside0.mk ((by rw [hg]; exact (below_size (by repeat (first | (with_reducible first | exact HB.out | apply below_alloc | apply pw_below_drewN | apply below_drew1) | exact HB.out))) : w.heap.size ≤ gb911)); clear HB; have HB := n0_; have BK911 := n1_; have GW911 := n2_; have GE911 := n3_; clear n0_ n1_ n2_ n3_; clear hb hbox hg; have hcz14_0 : w13.cell? ⟨gb911, 0, none⟩ = some (.slice A0_0 l0_0.length c0_0) := (blk_cell BK911.out 0).trans rfl; have hfz14_0 := blk_frozen BK911.out 0) | ((with_reducible refine gate_callee (f := 21) rfl ?_); refine goesL_ (some 18) rfl rfl Tryd.func21 (by kernel_rfl) rfl #[.agg #[.slice A0_0 l0_0.length c0_0], .int .i64 1048576] rfl (by (try simp only [List.map_toArray, List.map_cons, List.map_nil]); first | done | rfl | (simp only [List.length_drop, List.length_take]; rfl)) ?_; (with_reducible refine (laws_szTrie.calls _ _ l0_0 1048576 t912 _ ?side1 ?side2 A3.out).mono ?_); (case side1 => repeat (first | exact (Kd.C_below HR0_0.out HB.out) | (with_reducible refine Kd.C_alloc ?_ _) | (with_reducible refine Kd.C_drewN ?_ _) | (with_reducible refine Kd.C_drew ?_))); (case side2 => exact HC0_0.out); rintro e w15 ⟨rfl, hb⟩; refine ⟨_, rfl, ?_⟩; have n0_ := Aside0.mk (blk_below (g := gb911) (o := .cells #[.slice A0_0 l0_0.length c0_0] 36 (0, 0)) (by (with_reducible repeat (first | refine blk_drewN ?_ _ | refine blk_drew ?_ | refine blk_alloc ?_ _)); exact BK911.out) hb); have n1_ := Aside0.mk (below_step (by repeat (first | (with_reducible first | exact HB.out | apply below_alloc | apply pw_below_drewN | apply below_drew1 | refine below_set ?_ GE911.out) | exact HB.out)) hb); clear BK911; clear HB; have BK911 := n0_; have HB := n1_; clear n0_ n1_; (try clear hb); (try clear hb2); (try clear hk); (try clear hi); have hcz16_0 : w15.cell? ⟨gb911, 0, none⟩ = some (.slice A0_0 l0_0.length c0_0) := (blk_cell BK911.out 0).trans rfl; have hfz16_0 := blk_frozen BK911.out 0) | ((with_reducible refine gate_callee (f := 23) rfl ?_); refine goesL_ (some 23) rfl rfl Tryd.func23 (by kernel_rfl) rfl #[.agg #[.slice A0_0 l0_0.length c0_0]] rfl (by (try simp only [List.map_toArray, List.map_cons, List.map_nil]); first | done | rfl | (simp only [List.length_drop, List.length_take]; rfl)) ?_; (with_reducible refine (laws_toTrie.calls k _ _ l0_0 t913 _ ?side1 ?side2 A8.out).mono ?_); (case side1 => repeat (first | exact (Kd.C_below HR0_0.out HB.out) | (with_reducible refine Kd.C_alloc ?_ _) | (with_reducible refine Kd.C_drewN ?_ _) | (with_reducible refine Kd.C_drew ?_))); (case side2 => exact HC0_0.out); rintro e w17 ⟨v914, rfl, ho0, hb⟩; refine ⟨_, rfl, ?_⟩; have n0_ := Aside0.mk (Kd.R_lower ho0 (below_size (by repeat (first | (with_reducible first | exact HB.out | apply below_alloc | apply pw_below_drewN | apply below_drew1 | refine below_set ?_ GE911.out) | exact HB.out)))); have n1_ := Aside0.mk (blk_below (g := gb911) (o := .cells #[.slice A0_0 l0_0.length c0_0] 36 (0, 0)) (by (with_reducible repeat (first | refine blk_drewN ?_ _ | refine blk_drew ?_ | refine blk_alloc ?_ _)); exact BK911.out) hb); have n2_ := Aside0.mk (below_step (by repeat (first | (with_reducible first | exact HB.out | apply below_alloc | apply pw_below_drewN | apply below_drew1 | refine below_set ?_ GE911.out) | exact HB.out)) hb); clear BK911; clear HB; have HO915 := n0_; have BK911 := n1_; have HB := n2_; clear n0_ n1_ n2_; (try clear hb); (try clear hb2); (try clear hk); (try clear hi); (try clear ho0); obtain ⟨Ao18, co18, eo18⟩ := Kd.R_slice HO915.out; subst eo18) | ((with_reducible refine gate_callee (f := 37) rfl ?_); refine goesL_ (some 25) rfl rfl Tryd.func37 (by kernel_rfl) rfl #[.agg #[.slice Ao18 t913.length co18], .int .i64 a1] rfl (by (try simp only [List.map_toArray, List.map_cons, List.map_nil]); first | done | rfl | (simp only [List.length_drop, List.length_take]; rfl)) ?_; (with_reducible refine (spec_ShiftTrie.calls k _ _ t913 a1 t916 t919 _ ?side1 ?side2 A9.out).mono ?_); (case side1 => repeat (first | exact (Kd.R_reads' HO915.out).2.2 | (with_reducible refine Kd.C_alloc ?_ _) | (with_reducible refine Kd.C_drewN ?_ _) | (with_reducible refine Kd.C_drew ?_))); (case side2 => exact (Kd.R_reads' HO915.out).2.1); rintro e w19 ⟨v917, rfl, ho0, hb⟩; refine ⟨_, rfl, ?_⟩; have n0_ := Aside0.mk (Kd.R_elder' (by (with_reducible repeat (first | apply Kd.R_alloc | apply Kd.R_drewN | apply Kd.R_drew)); exact HO915.out) (Kd.R_base ho0) hb); have n1_ := Aside0.mk (Kd.R_lower (Kd.R_new' ho0 (Kd.R_lt (by (with_reducible repeat (first | apply Kd.R_alloc | apply Kd.R_drewN | apply Kd.R_drew)); exact HO915.out))) (below_size (by repeat (first | (with_reducible first | exact HB.out | apply below_alloc | apply pw_below_drewN | apply below_drew1 | refine below_set ?_ GE911.out) | exact HB.out)))); have n2_ := Aside0.mk (blk_below (g := gb911) (o := .cells #[.slice A0_0 l0_0.length c0_0] 36 (0, 0)) (by (with_reducible repeat (first | refine blk_drewN ?_ _ | refine blk_drew ?_ | refine blk_alloc ?_ _)); exact BK911.out) hb); have n3_ := Aside0.mk (below_step (by repeat (first | (with_reducible first | exact HB.out | apply below_alloc | apply pw_below_drewN | apply below_drew1 | refine below_set ?_ GE911.out) | exact HB.out)) hb); clear HO915; clear BK911; clear HB; have HO915 := n0_; have HO918 := n1_; have BK911 := n2_; have HB := n3_; clear n0_ n1_ n2_ n3_; (try clear hb); (try clear hb2); (try clear hk); (try clear hi); (try clear ho0)) | ((with_reducible refine gate_dst (N := 6) rfl ?_); refine box_event ?hg (N := 6) ?hd (cs := #[.slice none 0 0]) (t := 26) ?hr ?_; (case hd => rfl); (case hg => rfl); (case hr => first | (go_simp; done) | (go_simp; rfl)); intro gb920 hg w20 hbox hb; have n0_ := Aside0.mk (Kd.R_below (by (with_reducible repeat (first | apply Kd.R_alloc | apply Kd.R_drewN | apply Kd.R_drew)); exact HO915.out) hb); have n1_ := Aside0.mk (Kd.R_below (by (with_reducible repeat (first | apply Kd.R_alloc | apply Kd.R_drewN | apply Kd.R_drew)); exact HO918.out) hb); have n2_ := Aside0.mk (blk_below (g := gb911) (o := .cells #[.slice A0_0 l0_0.length c0_0] 36 (0, 0)) (by (with_reducible repeat (first | refine blk_drewN ?_ _ | refine blk_drew ?_ | refine blk_alloc ?_ _)); exact BK911.out) hb); have n3_ := Aside0.mk (below_step (by repeat (first | (with_reducible first | exact HB.out | apply below_alloc | apply pw_below_drewN | apply below_drew1 | refine below_set ?_ GE911.out) | exact HB.out)) hb); have n4_ := Aside0.mk (hbox); have n5_ := Aside0.mk ((by rw [hg]; exact (below_size (by repeat (first | (with_reducible first | exact HB.out | apply below_alloc | apply pw_below_drewN | apply below_drew1 | refine below_set ?_ GE911.out) | exact HB.out))) : w.heap.size ≤ gb920)); have n6_ := Aside0.mk ((by rw [hg]; exact (below_size (by repeat (first | (with_reducible first | exact HB.out | apply below_alloc | apply pw_below_drewN | apply below_drew1 | refine below_set ?_ GE911.out) | exact HB.out))) : w.heap.size ≤ gb920)); have n7_ := Aside0.mk ((by rw [hg]; exact Nat.ne_of_lt (blk_lt (g := gb911) (o := .cells #[.slice A0_0 l0_0.length c0_0] 36 (0, 0)) (by (with_reducible repeat (first | refine blk_drewN ?_ _ | refine blk_drew ?_ | refine blk_alloc ?_ _)); exact BK911.out)) : gb911 ≠ gb920)); have n8_ := Aside0.mk ((by rw [hg]; exact Nat.ne_of_gt (blk_lt (g := gb911) (o := .cells #[.slice A0_0 l0_0.length c0_0] 36 (0, 0)) (by (with_reducible repeat (first | refine blk_drewN ?_ _ | refine blk_drew ?_ | refine blk_alloc ?_ _)); exact BK911.out)) : gb920 ≠ gb911)); clear HO915; clear HO918; clear BK911; clear HB; have HO915 := n0_; have HO918 := n1_; have BK911 := n2_; have HB := n3_; have BK920 := n4_; have GW920 := n5_; have GE920 := n6_; have NB911_920 := n7_; have NB920_911 := n8_; clear n0_ n1_ n2_ n3_ n4_ n5_ n6_ n7_ n8_; clear hb hbox hg; obtain ⟨Ao21, co21, eo21⟩ := Kd.R_slice HO918.out; subst eo21; have hnb22 := NB920_911.out; have hnc22 := NB911_920.out; have hcz23_0 : w20.cell? ⟨gb920, 0, none⟩ = some (.slice none 0 0) := (blk_cell BK920.out 0).trans rfl; have hfz23_0 := blk_frozen BK920.out 0; have hcz24_0 : w20.cell? ⟨gb911, 0, none⟩ = some (.slice A0_0 l0_0.length c0_0) := (blk_cell BK911.out 0).trans rfl; have hfz24_0 := blk_frozen BK911.out 0) | ((with_reducible refine gate_callee (f := 23) rfl ?_); refine goesL_ (some 29) rfl rfl Tryd.func23 (by kernel_rfl) rfl #[.agg #[.slice A0_0 l0_0.length c0_0]] rfl (by (try simp only [List.map_toArray, List.map_cons, List.map_nil]); first | done | rfl | (simp only [List.length_drop, List.length_take]; rfl)) ?_; (with_reducible refine (laws_toTrie.calls k _ _ l0_0 t921 _ ?side1 ?side2 A10.out).mono ?_); (case side1 => exact Kd.C_below HR0_0.out (by repeat (first | (with_reducible first | exact HB.out | apply below_alloc | apply pw_below_drewN | apply below_drew1 | refine below_set ?_ GE911.out | refine below_set ?_ GE920.out) | exact HB.out))); (case side2 => exact HC0_0.out); rintro e w25 ⟨v922, rfl, ho0, hb⟩; refine ⟨_, rfl, ?_⟩; have n0_ := Aside0.mk (Kd.R_elder' (by (with_reducible repeat (first | apply Kd.R_alloc | apply Kd.R_drewN | apply Kd.R_drew)); exact (Kd.R_mono (R_same_ (Kd.R_far (p := ⟨gb920, 0, none⟩) (Kd.R_types HO915.out BK920.out (by decide)) (fun _ hk => hk.2) (.slice Ao21 t916.length co21)) rfl) (fun _ h_ => h_.1))) (Kd.R_base ho0) hb); have n1_ := Aside0.mk (Kd.R_elder' (by (with_reducible repeat (first | apply Kd.R_alloc | apply Kd.R_drewN | apply Kd.R_drew)); exact (Kd.R_mono (R_same_ (Kd.R_far (p := ⟨gb920, 0, none⟩) (Kd.R_types HO918.out BK920.out (by decide)) (fun _ hk => hk.2) (.slice Ao21 t916.length co21)) rfl) (fun _ h_ => h_.1))) (Kd.R_base ho0) hb); have n2_ := Aside0.mk (Kd.R_lower (Kd.R_new' (Kd.R_new' ho0 (Kd.R_lt (by (with_reducible repeat (first | apply Kd.R_alloc | apply Kd.R_drewN | apply Kd.R_drew)); exact (Kd.R_mono (R_same_ (Kd.R_far (p := ⟨gb920, 0, none⟩) (Kd.R_types HO915.out BK920.out (by decide)) (fun _ hk => hk.2) (.slice Ao21 t916.length co21)) rfl) (fun _ h_ => h_.1))))) (Kd.R_lt (by (with_reducible repeat (first | apply Kd.R_alloc | apply Kd.R_drewN | apply Kd.R_drew)); exact (Kd.R_mono (R_same_ (Kd.R_far (p := ⟨gb920, 0, none⟩) (Kd.R_types HO918.out BK920.out (by decide)) (fun _ hk => hk.2) (.slice Ao21 t916.length co21)) rfl) (fun _ h_ => h_.1))))) (below_size (by repeat (first | (with_reducible first | exact HB.out | apply below_alloc | apply pw_below_drewN | apply below_drew1 | refine below_set ?_ GE911.out | refine below_set ?_ GE920.out) | exact HB.out)))); have n3_ := Aside0.mk (blk_below (g := gb911) (o := .cells #[.slice A0_0 l0_0.length c0_0] 36 (0, 0)) (by (with_reducible repeat (first | refine blk_drewN ?_ _ | refine blk_drew ?_ | refine blk_alloc ?_ _)); refine blk_far ?_ NB911_920.out _; (with_reducible repeat (first | refine blk_drewN ?_ _ | refine blk_drew ?_ | refine blk_alloc ?_ _)); exact BK911.out) hb); have n4_ := Aside0.mk (blk_below (g := gb920) (o := .cells #[.slice Ao21 t916.length co21] 26 (0, 0)) (by (with_reducible repeat (first | refine blk_drewN ?_ _ | refine blk_drew ?_ | refine blk_alloc ?_ _)); refine blk_put (cs := #[.slice none 0 0]) ?_ 0 _ rfl; (with_reducible repeat (first | refine blk_drewN ?_ _ | refine blk_drew ?_ | refine blk_alloc ?_ _)); exact BK920.out) hb); have n5_ := Aside0.mk (below_step (by repeat (first | (with_reducible first | exact HB.out | apply below_alloc | apply pw_below_drewN | apply below_drew1 | refine below_set ?_ GE911.out | refine below_set ?_ GE920.out) | exact HB.out)) hb); clear HO915; clear HO918; clear BK911; clear BK920; clear HB; have HO915 := n0_; have HO918 := n1_; have HO923 := n2_; have BK911 := n3_; have BK920 := n4_; have HB := n5_; clear n0_ n1_ n2_ n3_ n4_ n5_; (try clear hb); (try clear hb2); (try clear hk); (try clear hi); (try clear ho0)) | ((with_reducible refine gate_dst (N := 8) rfl ?_); refine box_event ?hg (N := 8) ?hd (cs := #[.slice none 0 0]) (t := 26) ?hr ?_; (case hd => rfl); (case hg => rfl); (case hr => first | (go_simp; done) | (go_simp; rfl)); intro gb924 hg w26 hbox hb; have n0_ := Aside0.mk (Kd.R_below (by (with_reducible repeat (first | apply Kd.R_alloc | apply Kd.R_drewN | apply Kd.R_drew)); exact HO915.out) hb); have n1_ := Aside0.mk (Kd.R_below (by (with_reducible repeat (first | apply Kd.R_alloc | apply Kd.R_drewN | apply Kd.R_drew)); exact HO918.out) hb); have n2_ := Aside0.mk (Kd.R_below (by (with_reducible repeat (first | apply Kd.R_alloc | apply Kd.R_drewN | apply Kd.R_drew)); exact HO923.out) hb); have n3_ := Aside0.mk (blk_below (g := gb911) (o := .cells #[.slice A0_0 l0_0.length c0_0] 36 (0, 0)) (by (with_reducible repeat (first | refine blk_drewN ?_ _ | refine blk_drew ?_ | refine blk_alloc ?_ _)); exact BK911.out) hb); have n4_ := Aside0.mk (blk_below (g := gb920) (o := .cells #[.slice Ao21 t916.length co21] 26 (0, 0)) (by (with_reducible repeat (first | refine blk_drewN ?_ _ | refine blk_drew ?_ | refine blk_alloc ?_ _)); exact BK920.out) hb); have n5_ := Aside0.mk (below_step (by repeat (first | (with_reducible first | exact HB.out | apply below_alloc | apply pw_below_drewN | apply below_drew1 | refine below_set ?_ GE911.out | refine below_set ?_ GE920.out) | exact HB.out)) hb); have n6_ := Aside0.mk (hbox); have n7_ := Aside0.mk ((by rw [hg]; exact (below_size (by repeat (first | (with_reducible first | exact HB.out | apply below_alloc | apply pw_below_drewN | apply below_drew1 | refine below_set ?_ GE911.out | refine below_set ?_ GE920.out) | exact HB.out))) : w.heap.size ≤ gb924)); have n8_ := Aside0.mk ((by rw [hg]; exact (below_size (by repeat (first | (with_reducible first | exact HB.out | apply below_alloc | apply pw_below_drewN | apply below_drew1 | refine below_set ?_ GE911.out | refine below_set ?_ GE920.out) | exact HB.out))) : w.heap.size ≤ gb924)); have n9_ := Aside0.mk ((by rw [hg]; exact Nat.ne_of_lt (blk_lt (g := gb911) (o := .cells #[.slice A0_0 l0_0.length c0_0] 36 (0, 0)) (by (with_reducible repeat (first | refine blk_drewN ?_ _ | refine blk_drew ?_ | refine blk_alloc ?_ _)); exact BK911.out)) : gb911 ≠ gb924)); have n10_ := Aside0.mk ((by rw [hg]; exact Nat.ne_of_gt (blk_lt (g := gb911) (o := .cells #[.slice A0_0 l0_0.length c0_0] 36 (0, 0)) (by (with_reducible repeat (first | refine blk_drewN ?_ _ | refine blk_drew ?_ | refine blk_alloc ?_ _)); exact BK911.out)) : gb924 ≠ gb911)); have n11_ := Aside0.mk ((by rw [hg]; exact Nat.ne_of_lt (blk_lt (g := gb920) (o := .cells #[.slice Ao21 t916.length co21] 26 (0, 0)) (by (with_reducible repeat (first | refine blk_drewN ?_ _ | refine blk_drew ?_ | refine blk_alloc ?_ _)); exact BK920.out)) : gb920 ≠ gb924)); have n12_ := Aside0.mk ((by rw [hg]; exact Nat.ne_of_gt (blk_lt (g := gb920) (o := .cells #[.slice Ao21 t916.length co21] 26 (0, 0)) (by (with_reducible repeat (first | refine blk_drewN ?_ _ | refine blk_drew ?_ | refine blk_alloc ?_ _)); exact BK920.out)) : gb924 ≠ gb920)); clear HO915; clear HO918; clear HO923; clear BK911; clear BK920; clear HB; have HO915 := n0_; have HO918 := n1_; have HO923 := n2_; have BK911 := n3_; have BK920 := n4_; have HB := n5_; have BK924 := n6_; have GW924 := n7_; have GE924 := n8_; have NB911_924 := n9_; have NB924_911 := n10_; have NB920_924 := n11_; have NB924_920 := n12_; clear n0_ n1_ n2_ n3_ n4_ n5_ n6_ n7_ n8_ n9_ n10_ n11_ n12_; clear hb hbox hg; obtain ⟨Ao27, co27, eo27⟩ := Kd.R_slice HO923.out; subst eo27; have hnb28 := NB924_911.out; have hnc28 := NB911_924.out; have hnb29 := NB924_920.out; have hnc29 := NB920_924.out; have hcz30_0 : w26.cell? ⟨gb924, 0, none⟩ = some (.slice none 0 0) := (blk_cell BK924.out 0).trans rfl; have hfz30_0 := blk_frozen BK924.out 0) | ((with_reducible refine gate_callee (f := 38) rfl ?_); refine goesL_ (some 33) rfl rfl Tryd.func38 (by kernel_rfl) rfl #[.agg #[.slice Ao27 t921.length co27], .int .i64 a1] rfl (by (try simp only [List.map_toArray, List.map_cons, List.map_nil]); first | done | rfl | (simp only [List.length_drop, List.length_take]; rfl)) ?_; (with_reducible refine (impl_ShiftTrie.calls _ _ t921 a1 t925 t928 _ ?side1 ?side2 A11.out).mono ?_); (case side1 => refine (Kd.R_reads' (e := 76) (base := w.heap.size) (ok := fun k_ => ((True ∧ some k_ ≠ (.slice Ao18 t913.length co18 : Value).ownBlock) ∧ some k_ ≠ (.slice Ao21 t916.length co21 : Value).ownBlock)) (n := t921.length) (c := co27) ?_).2.2; exact (by (with_reducible repeat (first | apply Kd.R_alloc | apply Kd.R_drewN | apply Kd.R_drew)); exact (Kd.R_mono (R_same_ (Kd.R_far (p := ⟨gb924, 0, none⟩) (Kd.R_types HO923.out BK924.out (by decide)) (fun _ hk => hk.2) (.slice Ao27 t921.length co27)) rfl) (fun _ h_ => h_.1)))); (case side2 => exact (Kd.R_reads' HO923.out).2.1); rintro e w31 ⟨v926, rfl, ho0, hb⟩; refine ⟨_, rfl, ?_⟩; have n0_ := Aside0.mk (Kd.R_elder' (by (with_reducible repeat (first | apply Kd.R_alloc | apply Kd.R_drewN | apply Kd.R_drew)); exact (Kd.R_mono (R_same_ (Kd.R_far (p := ⟨gb924, 0, none⟩) (Kd.R_types HO915.out BK924.out (by decide)) (fun _ hk => hk.2) (.slice Ao27 t921.length co27)) rfl) (fun _ h_ => h_.1))) (Kd.R_base ho0) hb); have n1_ := Aside0.mk (Kd.R_elder' (by (with_reducible repeat (first | apply Kd.R_alloc | apply Kd.R_drewN | apply Kd.R_drew)); exact (Kd.R_mono (R_same_ (Kd.R_far (p := ⟨gb924, 0, none⟩) (Kd.R_types HO918.out BK924.out (by decide)) (fun _ hk => hk.2) (.slice Ao27 t921.length co27)) rfl) (fun _ h_ => h_.1))) (Kd.R_base ho0) hb); have n2_ := Aside0.mk (Kd.R_elder' (by (with_reducible repeat (first | apply Kd.R_alloc | apply Kd.R_drewN | apply Kd.R_drew)); exact (Kd.R_mono (R_same_ (Kd.R_far (p := ⟨gb924, 0, none⟩) (Kd.R_types HO923.out BK924.out (by decide)) (fun _ hk => hk.2) (.slice Ao27 t921.length co27)) rfl) (fun _ h_ => h_.1))) (Kd.R_base ho0) hb); have n3_ := Aside0.mk (Kd.R_lower (Kd.R_new' (Kd.R_new' (Kd.R_new' ho0 (Kd.R_lt (by (with_reducible repeat (first | apply Kd.R_alloc | apply Kd.R_drewN | apply Kd.R_drew)); exact (Kd.R_mono (R_same_ (Kd.R_far (p := ⟨gb924, 0, none⟩) (Kd.R_types HO915.out BK924.out (by decide)) (fun _ hk => hk.2) (.slice Ao27 t921.length co27)) rfl) (fun _ h_ => h_.1))))) (Kd.R_lt (by (with_reducible repeat (first | apply Kd.R_alloc | apply Kd.R_drewN | apply Kd.R_drew)); exact (Kd.R_mono (R_same_ (Kd.R_far (p := ⟨gb924, 0, none⟩) (Kd.R_types HO918.out BK924.out (by decide)) (fun _ hk => hk.2) (.slice Ao27 t921.length co27)) rfl) (fun _ h_ => h_.1))))) (Kd.R_lt (by (with_reducible repeat (first | apply Kd.R_alloc | apply Kd.R_drewN | apply Kd.R_drew)); exact (Kd.R_mono (R_same_ (Kd.R_far (p := ⟨gb924, 0, none⟩) (Kd.R_types HO923.out BK924.out (by decide)) (fun _ hk => hk.2) (.slice Ao27 t921.length co27)) rfl) (fun _ h_ => h_.1))))) (below_size (by repeat (first | (with_reducible first | exact HB.out | apply below_alloc | apply pw_below_drewN | apply below_drew1 | refine below_set ?_ GE911.out | refine below_set ?_ GE920.out | refine below_set ?_ GE924.out) | exact HB.out)))); have n4_ := Aside0.mk (blk_below (g := gb911) (o := .cells #[.slice A0_0 l0_0.length c0_0] 36 (0, 0)) (by (with_reducible repeat (first | refine blk_drewN ?_ _ | refine blk_drew ?_ | refine blk_alloc ?_ _)); refine blk_far ?_ NB911_924.out _; (with_reducible repeat (first | refine blk_drewN ?_ _ | refine blk_drew ?_ | refine blk_alloc ?_ _)); exact BK911.out) hb); have n5_ := Aside0.mk (blk_below (g := gb920) (o := .cells #[.slice Ao21 t916.length co21] 26 (0, 0)) (by (with_reducible repeat (first | refine blk_drewN ?_ _ | refine blk_drew ?_ | refine blk_alloc ?_ _)); refine blk_far ?_ NB920_924.out _; (with_reducible repeat (first | refine blk_drewN ?_ _ | refine blk_drew ?_ | refine blk_alloc ?_ _)); exact BK920.out) hb); have n6_ := Aside0.mk (blk_below (g := gb924) (o := .cells #[.slice Ao27 t921.length co27] 26 (0, 0)) (by (with_reducible repeat (first | refine blk_drewN ?_ _ | refine blk_drew ?_ | refine blk_alloc ?_ _)); refine blk_put (cs := #[.slice none 0 0]) ?_ 0 _ rfl; (with_reducible repeat (first | refine blk_drewN ?_ _ | refine blk_drew ?_ | refine blk_alloc ?_ _)); exact BK924.out) hb); have n7_ := Aside0.mk (below_step (by repeat (first | (with_reducible first | exact HB.out | apply below_alloc | apply pw_below_drewN | apply below_drew1 | refine below_set ?_ GE911.out | refine below_set ?_ GE920.out | refine below_set ?_ GE924.out) | exact HB.out)) hb); clear HO915; clear HO918; clear HO923; clear BK911; clear BK920; clear BK924; clear HB; have HO915 := n0_; have HO918 := n1_; have HO923 := n2_; have HO927 := n3_; have BK911 := n4_; have BK920 := n5_; have BK924 := n6_; have HB := n7_; clear n0_ n1_ n2_ n3_ n4_ n5_ n6_ n7_; (try clear hb); (try clear hb2); (try clear hk); (try clear hi); (try clear ho0)) | ((with_reducible refine gate_dst (N := 9) rfl ?_); refine box_event ?hg (N := 9) ?hd (cs := #[.slice none 0 0]) (t := 26) ?hr ?_; (case hd => rfl); (case hg => rfl); (case hr => first | (go_simp; done) | (go_simp; rfl)); intro gb929 hg w32 hbox hb; have n0_ := Aside0.mk (Kd.R_below (by (with_reducible repeat (first | apply Kd.R_alloc | apply Kd.R_drewN | apply Kd.R_drew)); exact HO915.out) hb); have n1_ := Aside0.mk (Kd.R_below (by (with_reducible repeat (first | apply Kd.R_alloc | apply Kd.R_drewN | apply Kd.R_drew)); exact HO918.out) hb); have n2_ := Aside0.mk (Kd.R_below (by (with_reducible repeat (first | apply Kd.R_alloc | apply Kd.R_drewN | apply Kd.R_drew)); exact HO923.out) hb); have n3_ := Aside0.mk (Kd.R_below (by (with_reducible repeat (first | apply Kd.R_alloc | apply Kd.R_drewN | apply Kd.R_drew)); exact HO927.out) hb); have n4_ := Aside0.mk (blk_below (g := gb911) (o := .cells #[.slice A0_0 l0_0.length c0_0] 36 (0, 0)) (by (with_reducible repeat (first | refine blk_drewN ?_ _ | refine blk_drew ?_ | refine blk_alloc ?_ _)); exact BK911.out) hb); have n5_ := Aside0.mk (blk_below (g := gb920) (o := .cells #[.slice Ao21 t916.length co21] 26 (0, 0)) (by (with_reducible repeat (first | refine blk_drewN ?_ _ | refine blk_drew ?_ | refine blk_alloc ?_ _)); exact BK920.out) hb); have n6_ := Aside0.mk (blk_below (g := gb924) (o := .cells #[.slice Ao27 t921.length co27] 26 (0, 0)) (by (with_reducible repeat (first | refine blk_drewN ?_ _ | refine blk_drew ?_ | refine blk_alloc ?_ _)); exact BK924.out) hb); have n7_ := Aside0.mk (below_step (by repeat (first | (with_reducible first | exact HB.out | apply below_alloc | apply pw_below_drewN | apply below_drew1 | refine below_set ?_ GE911.out | refine below_set ?_ GE920.out | refine below_set ?_ GE924.out) | exact HB.out)) hb); have n8_ := Aside0.mk (hbox); have n9_ := Aside0.mk ((by rw [hg]; exact (below_size (by repeat (first | (with_reducible first | exact HB.out | apply below_alloc | apply pw_below_drewN | apply below_drew1 | refine below_set ?_ GE911.out | refine below_set ?_ GE920.out | refine below_set ?_ GE924.out) | exact HB.out))) : w.heap.size ≤ gb929)); have n10_ := Aside0.mk ((by rw [hg]; exact (below_size (by repeat (first | (with_reducible first | exact HB.out | apply below_alloc | apply pw_below_drewN | apply below_drew1 | refine below_set ?_ GE911.out | refine below_set ?_ GE920.out | refine below_set ?_ GE924.out) | exact HB.out))) : w.heap.size ≤ gb929)); have n11_ := Aside0.mk ((by rw [hg]; exact Nat.ne_of_lt (blk_lt (g := gb911) (o := .cells #[.slice A0_0 l0_0.length c0_0] 36 (0, 0)) (by (with_reducible repeat (first | refine blk_drewN ?_ _ | refine blk_drew ?_ | refine blk_alloc ?_ _)); exact BK911.out)) : gb911 ≠ gb929)); have n12_ := Aside0.mk ((by rw [hg]; exact Nat.ne_of_gt (blk_lt (g := gb911) (o := .cells #[.slice A0_0 l0_0.length c0_0] 36 (0, 0)) (by (with_reducible repeat (first | refine blk_drewN ?_ _ | refine blk_drew ?_ | refine blk_alloc ?_ _)); exact BK911.out)) : gb929 ≠ gb911)); have n13_ := Aside0.mk ((by rw [hg]; exact Nat.ne_of_lt (blk_lt (g := gb920) (o := .cells #[.slice Ao21 t916.length co21] 26 (0, 0)) (by (with_reducible repeat (first | refine blk_drewN ?_ _ | refine blk_drew ?_ | refine blk_alloc ?_ _)); exact BK920.out)) : gb920 ≠ gb929)); have n14_ := Aside0.mk ((by rw [hg]; exact Nat.ne_of_gt (blk_lt (g := gb920) (o := .cells #[.slice Ao21 t916.length co21] 26 (0, 0)) (by (with_reducible repeat (first | refine blk_drewN ?_ _ | refine blk_drew ?_ | refine blk_alloc ?_ _)); exact BK920.out)) : gb929 ≠ gb920)); have n15_ := Aside0.mk ((by rw [hg]; exact Nat.ne_of_lt (blk_lt (g := gb924) (o := .cells #[.slice Ao27 t921.length co27] 26 (0, 0)) (by (with_reducible repeat (first | refine blk_drewN ?_ _ | refine blk_drew ?_ | refine blk_alloc ?_ _)); exact BK924.out)) : gb924 ≠ gb929)); have n16_ := Aside0.mk ((by rw [hg]; exact Nat.ne_of_gt (blk_lt (g := gb924) (o := .cells #[.slice Ao27 t921.length co27] 26 (0, 0)) (by (with_reducible repeat (first | refine blk_drewN ?_ _ | refine blk_drew ?_ | refine blk_alloc ?_ _)); exact BK924.out)) : gb929 ≠ gb924)); clear HO915; clear HO918; clear HO923; clear HO927; clear BK911; clear BK920; clear BK924; clear HB; have HO915 := n0_; have HO918 := n1_; have HO923 := n2_; have HO927 := n3_; have BK911 := n4_; have BK920 := n5_; have BK924 := n6_; have HB := n7_; have BK929 := n8_; have GW929 := n9_; have GE929 := n10_; have NB911_929 := n11_; have NB929_911 := n12_; have NB920_929 := n13_; have NB929_920 := n14_; have NB924_929 := n15_; have NB929_924 := n16_; clear n0_ n1_ n2_ n3_ n4_ n5_ n6_ n7_ n8_ n9_ n10_ n11_ n12_ n13_ n14_ n15_ n16_; clear hb hbox hg; obtain ⟨Ao33, co33, eo33⟩ := Kd.R_slice HO927.out; subst eo33; have hnb34 := NB929_911.out; have hnc34 := NB911_929.out; have hnb35 := NB929_920.out; have hnc35 := NB920_929.out; have hnb36 := NB929_924.out; have hnc36 := NB924_929.out; have hcz37_0 : w32.cell? ⟨gb929, 0, none⟩ = some (.slice none 0 0) := (blk_cell BK929.out 0).trans rfl; have hfz37_0 := blk_frozen BK929.out 0))
    (try simp only [Act.put, List.setIfInBounds_toArray, List.set_cons_zero, List.set_cons_succ])
    go_cut [44] (fun v44 wc => ∃ (kq : Nat) (x44_11 : Bool), v44 = .bool x44_11 ∧ Aside0 (laws_FnExactShiftTrie.j0 kq a1 t919 t928 x44_11 l0_0 t916 t921 t925 = some true) ∧ Aside0 (kq ≤ k) ∧ Aside0 (Kd.R k76 76 wc w.heap.size (fun k_ => some k_ ≠ ((.slice Ao27 t921.length co27) : Value).ownBlock ∧ some k_ ≠ ((.slice Ao33 t925.length co33) : Value).ownBlock) (.slice Ao21 t916.length co21) t916) ∧ Aside0 (Kd.R k76 76 wc w.heap.size (fun k_ => some k_ ≠ ((.slice Ao21 t916.length co21) : Value).ownBlock ∧ some k_ ≠ ((.slice Ao33 t925.length co33) : Value).ownBlock) (.slice Ao27 t921.length co27) t921) ∧ Aside0 (Kd.R k76 76 wc w.heap.size (fun k_ => some k_ ≠ ((.slice Ao21 t916.length co21) : Value).ownBlock ∧ some k_ ≠ ((.slice Ao27 t921.length co27) : Value).ownBlock) (.slice Ao33 t925.length co33) t925) ∧ Aside0 (wc.heap[gb911]? = some (.cells #[(.slice A0_0 l0_0.length c0_0)] 36 (0, 0))) ∧ Aside0 (wc.heap[gb920]? = some (.cells #[(.slice Ao21 t916.length co21)] 26 (0, 0))) ∧ Aside0 (wc.heap[gb924]? = some (.cells #[(.slice Ao27 t921.length co27)] 26 (0, 0))) ∧ Aside0 (wc.heap[gb929]? = some (.cells #[(.slice Ao33 t925.length co33)] 26 (0, 0))) ∧ Aside0 (Below w.heap.size w wc))
    case first =>
      have H := HC12.out
      clear HC12
      replace H := Option.bind_eq_some_iff.mp H
      obtain ⟨t930, A380, H⟩ := H
      replace H : (if t930 = true then (laws_FnExactShiftTrie.j0 k a1 t919 t928 (t928 != t919) l0_0 t916 t921 t925) else (laws_FnExactShiftTrie.j0 k a1 t919 t928 true l0_0 t916 t921 t925)) = some true := H
      have A38 := Aside0.mk A380
      clear A380
      by_cases c39 : t930 = true
      · subst c39
        have H1 : (laws_FnExactShiftTrie.j0 k a1 t919 t928 (t928 != t919) l0_0 t916 t921 t925) = some true := by rw [if_pos rfl] at H; exact H
        clear H
        have H := H1
        clear H1
        have H' := Aside0.mk H
        clear H
        have hnb40 := NB929_911.out
        have hnc40 := NB911_929.out
        have hnb41 := NB929_920.out
        have hnc41 := NB920_929.out
        have hnb42 := NB929_924.out
        have hnc42 := NB924_929.out
        have hcz43_0 : w32.cell? ⟨gb929, 0, none⟩ = some (.slice none 0 0) := (blk_cell BK929.out 0).trans rfl
        have hfz43_0 := blk_frozen BK929.out 0
        have hnb44 := NB920_911.out
        have hnc44 := NB911_920.out
        have hnb45 := NB920_924.out
        have hnc45 := NB924_920.out
        have hcz46_0 : w32.cell? ⟨gb920, 0, none⟩ = some (.slice Ao21 t916.length co21) := (blk_cell BK920.out 0).trans rfl
        have hfz46_0 := blk_frozen BK920.out 0
        go_wp2_with (first | ((with_reducible refine gate_callee (f := 16) rfl ?_); refine goesL_ (some 38) rfl rfl Tryd.func16 (by kernel_rfl) rfl #[.agg #[.slice Ao33 t925.length co33], .agg #[.slice Ao21 t916.length co21]] rfl (by (try simp only [List.map_toArray, List.map_cons, List.map_nil]); first | done | rfl | (simp only [List.length_drop, List.length_take]; rfl)) ?_; (with_reducible refine (laws_eqTrie.calls k _ _ t925 _ _ t916 true _ ?side1 ?side2 ?side3 ?side4 A38.out).mono ?_); (case side1 => refine (Kd.R_reads' (e := 76) (base := w.heap.size) (ok := fun k_ => (((True ∧ some k_ ≠ (.slice Ao18 t913.length co18 : Value).ownBlock) ∧ some k_ ≠ (.slice Ao21 t916.length co21 : Value).ownBlock) ∧ some k_ ≠ (.slice Ao27 t921.length co27 : Value).ownBlock)) (n := t925.length) (c := co33) ?_).2.2; exact (by (with_reducible repeat (first | apply Kd.R_alloc | apply Kd.R_drewN | apply Kd.R_drew)); exact (Kd.R_mono (R_same_ (Kd.R_far (p := ⟨gb929, 0, none⟩) (Kd.R_types HO927.out BK929.out (by decide)) (fun _ hk => hk.2) (.slice Ao33 t925.length co33)) rfl) (fun _ h_ => h_.1)))); (case side2 => exact (Kd.R_reads' HO927.out).2.1); (case side3 => refine (Kd.R_reads' (e := 76) (base := w.heap.size) (ok := fun k_ => (((True ∧ some k_ ≠ (.slice Ao18 t913.length co18 : Value).ownBlock) ∧ some k_ ≠ (.slice Ao27 t921.length co27 : Value).ownBlock) ∧ some k_ ≠ (.slice Ao33 t925.length co33 : Value).ownBlock)) (n := t916.length) (c := co21) ?_).2.2; exact (by (with_reducible repeat (first | apply Kd.R_alloc | apply Kd.R_drewN | apply Kd.R_drew)); exact (Kd.R_mono (R_same_ (Kd.R_far (p := ⟨gb929, 0, none⟩) (Kd.R_types HO918.out BK929.out (by decide)) (fun _ hk => hk.2) (.slice Ao33 t925.length co33)) rfl) (fun _ h_ => h_.1)))); (case side4 => exact (Kd.R_reads' HO918.out).2.1); rintro e w47 ⟨rfl, hb⟩; refine ⟨_, rfl, ?_⟩; have n0_ := Aside0.mk (Kd.R_below (by (with_reducible repeat (first | apply Kd.R_alloc | apply Kd.R_drewN | apply Kd.R_drew)); exact (Kd.R_mono (R_same_ (Kd.R_far (p := ⟨gb929, 0, none⟩) (Kd.R_types HO915.out BK929.out (by decide)) (fun _ hk => hk.2) (.slice Ao33 t925.length co33)) rfl) (fun _ h_ => h_.1))) hb); have n1_ := Aside0.mk (Kd.R_below (by (with_reducible repeat (first | apply Kd.R_alloc | apply Kd.R_drewN | apply Kd.R_drew)); exact (Kd.R_mono (R_same_ (Kd.R_far (p := ⟨gb929, 0, none⟩) (Kd.R_types HO918.out BK929.out (by decide)) (fun _ hk => hk.2) (.slice Ao33 t925.length co33)) rfl) (fun _ h_ => h_.1))) hb); have n2_ := Aside0.mk (Kd.R_below (by (with_reducible repeat (first | apply Kd.R_alloc | apply Kd.R_drewN | apply Kd.R_drew)); exact (Kd.R_mono (R_same_ (Kd.R_far (p := ⟨gb929, 0, none⟩) (Kd.R_types HO923.out BK929.out (by decide)) (fun _ hk => hk.2) (.slice Ao33 t925.length co33)) rfl) (fun _ h_ => h_.1))) hb); have n3_ := Aside0.mk (Kd.R_below (by (with_reducible repeat (first | apply Kd.R_alloc | apply Kd.R_drewN | apply Kd.R_drew)); exact (Kd.R_mono (R_same_ (Kd.R_far (p := ⟨gb929, 0, none⟩) (Kd.R_types HO927.out BK929.out (by decide)) (fun _ hk => hk.2) (.slice Ao33 t925.length co33)) rfl) (fun _ h_ => h_.1))) hb); have n4_ := Aside0.mk (blk_below (g := gb911) (o := .cells #[.slice A0_0 l0_0.length c0_0] 36 (0, 0)) (by (with_reducible repeat (first | refine blk_drewN ?_ _ | refine blk_drew ?_ | refine blk_alloc ?_ _)); refine blk_far ?_ NB911_929.out _; (with_reducible repeat (first | refine blk_drewN ?_ _ | refine blk_drew ?_ | refine blk_alloc ?_ _)); exact BK911.out) hb); have n5_ := Aside0.mk (blk_below (g := gb920) (o := .cells #[.slice Ao21 t916.length co21] 26 (0, 0)) (by (with_reducible repeat (first | refine blk_drewN ?_ _ | refine blk_drew ?_ | refine blk_alloc ?_ _)); refine blk_far ?_ NB920_929.out _; (with_reducible repeat (first | refine blk_drewN ?_ _ | refine blk_drew ?_ | refine blk_alloc ?_ _)); exact BK920.out) hb); have n6_ := Aside0.mk (blk_below (g := gb924) (o := .cells #[.slice Ao27 t921.length co27] 26 (0, 0)) (by (with_reducible repeat (first | refine blk_drewN ?_ _ | refine blk_drew ?_ | refine blk_alloc ?_ _)); refine blk_far ?_ NB924_929.out _; (with_reducible repeat (first | refine blk_drewN ?_ _ | refine blk_drew ?_ | refine blk_alloc ?_ _)); exact BK924.out) hb); have n7_ := Aside0.mk (blk_below (g := gb929) (o := .cells #[.slice Ao33 t925.length co33] 26 (0, 0)) (by (with_reducible repeat (first | refine blk_drewN ?_ _ | refine blk_drew ?_ | refine blk_alloc ?_ _)); refine blk_put (cs := #[.slice none 0 0]) ?_ 0 _ rfl; (with_reducible repeat (first | refine blk_drewN ?_ _ | refine blk_drew ?_ | refine blk_alloc ?_ _)); exact BK929.out) hb); have n8_ := Aside0.mk (below_step (by repeat (first | (with_reducible first | exact HB.out | apply below_alloc | apply pw_below_drewN | apply below_drew1 | refine below_set ?_ GE911.out | refine below_set ?_ GE920.out | refine below_set ?_ GE924.out | refine below_set ?_ GE929.out) | exact HB.out)) hb); clear HO915; clear HO918; clear HO923; clear HO927; clear BK911; clear BK920; clear BK924; clear BK929; clear HB; have HO915 := n0_; have HO918 := n1_; have HO923 := n2_; have HO927 := n3_; have BK911 := n4_; have BK920 := n5_; have BK924 := n6_; have BK929 := n7_; have HB := n8_; clear n0_ n1_ n2_ n3_ n4_ n5_ n6_ n7_ n8_; (try clear hb); (try clear hb2); (try clear hk); (try clear hi)))
        go_meet
        case rel => exact ⟨_, ((t928 != t919)), (by first | rfl | (simp; done) | (simp [*]; done)), H', ⟨by first | omega | exact Nat.le_refl _⟩, ⟨by (with_reducible repeat (first | apply Kd.R_alloc | apply Kd.R_drewN | apply Kd.R_drew)); exact Kd.R_mono HO918.out (fun _ hk => ⟨hk.1.2, hk.2⟩)⟩, ⟨by (with_reducible repeat (first | apply Kd.R_alloc | apply Kd.R_drewN | apply Kd.R_drew)); exact Kd.R_mono HO923.out (fun _ hk => ⟨hk.1.2, hk.2⟩)⟩, ⟨by (with_reducible repeat (first | apply Kd.R_alloc | apply Kd.R_drewN | apply Kd.R_drew)); exact Kd.R_mono HO927.out (fun _ hk => ⟨hk.1.2, hk.2⟩)⟩, ⟨by (with_reducible repeat (first | refine blk_drewN ?_ _ | refine blk_drew ?_ | refine blk_alloc ?_ _)); exact BK911.out⟩, ⟨by (with_reducible repeat (first | refine blk_drewN ?_ _ | refine blk_drew ?_ | refine blk_alloc ?_ _)); exact BK920.out⟩, ⟨by (with_reducible repeat (first | refine blk_drewN ?_ _ | refine blk_drew ?_ | refine blk_alloc ?_ _)); exact BK924.out⟩, ⟨by (with_reducible repeat (first | refine blk_drewN ?_ _ | refine blk_drew ?_ | refine blk_alloc ?_ _)); exact BK929.out⟩, ⟨by repeat (first | (with_reducible first | exact HB.out | apply below_alloc | apply pw_below_drewN | apply below_drew1 | refine below_set ?_ GE911.out | refine below_set ?_ GE920.out | refine below_set ?_ GE924.out | refine below_set ?_ GE929.out) | exact HB.out)⟩⟩
      · replace c39 := Bool.eq_false_iff.mpr c39
        subst c39
        have H1 : (laws_FnExactShiftTrie.j0 k a1 t919 t928 true l0_0 t916 t921 t925) = some true := by rw [if_neg (show ¬ (false = true) by decide)] at H; exact H
        exact absurd H1 (by cases k <;> simp [laws_FnExactShiftTrie.j0])
    case rest =>
      clear HC12
      try clear c1
      try clear c2
      try clear p2
      try clear c3
      try clear c4
      try clear c4b0
      try clear c5
      try clear c11
      try clear c16
      try clear c21
      try clear c22
      try clear c23
      try clear c28
      try clear c29
      try clear c34
      try clear c35
      try clear c36
      try clear c37
      try clear c38
      try clear c39
      try clear c40
      try clear c41
      try clear c42
      try clear c44
      try clear c45
      try clear c48
      try clear c49
      try clear c50
      try clear c52
      try clear c53
      try clear hcz14_0
      try clear hcz16_0
      try clear hcz23_0
      try clear hcz24_0
      try clear hcz30_0
      try clear hcz37_0
      try clear hcz43_0
      try clear hcz46_0
      try clear hcz51_0
      try clear hcz54_0
      try clear hcz6_0
      try clear hfz14_0
      try clear hfz16_0
      try clear hfz23_0
      try clear hfz24_0
      try clear hfz30_0
      try clear hfz37_0
      try clear hfz43_0
      try clear hfz46_0
      try clear hfz51_0
      try clear hfz54_0
      try clear hfz6_0
      obtain ⟨kq, x44_11, rfl, HA, HJ11, HO_921000, HO_925000, HO_930000, BK911, BK920, BK924, BK929, HB⟩ := hcut
      cases kq with
      | zero => exact absurd HA.out (by simp [laws_FnExactShiftTrie.j0])
      | succ kj11 =>
        have H := HA.out
        clear HA
        simp only [laws_FnExactShiftTrie.j0] at H
        by_cases c56 : x44_11 = true
        · subst c56
          have H1 : (some false) = some true := by rw [if_pos rfl] at H; exact H
          exact absurd H1 (by simp)
        · replace c56 := Bool.eq_false_iff.mpr c56
          subst c56
          have H1 : ((laws_toTrie.f kj11 l0_0).bind fun t931 => ((laws_eqTrie.f kj11 t921 t931).bind fun t934 => (if t934 = true then ((laws_markTrie.f kj11 t921 1).bind fun bt935 => (if bt935.1 < 0 then (laws_FnExactShiftTrie.j1 kj11 a1 t919 true l0_0 t916 t925) else ((laws_eqTrie.f kj11 t925 t916).bind fun t937 => (if t937 = true then (laws_FnExactShiftTrie.j1 kj11 a1 t919 (t928 != t919) l0_0 t916 t925) else (laws_FnExactShiftTrie.j1 kj11 a1 t919 true l0_0 t916 t925))))) else (some false)))) = some true := by rw [if_neg (show ¬ (false = true) by decide)] at H; exact H
          clear H
          have H := H1
          clear H1
          replace H := Option.bind_eq_some_iff.mp H
          obtain ⟨t931, A570, H⟩ := H
          replace H : ((laws_eqTrie.f kj11 t921 t931).bind fun t934 => (if t934 = true then ((laws_markTrie.f kj11 t921 1).bind fun bt935 => (if bt935.1 < 0 then (laws_FnExactShiftTrie.j1 kj11 a1 t919 true l0_0 t916 t925) else ((laws_eqTrie.f kj11 t925 t916).bind fun t937 => (if t937 = true then (laws_FnExactShiftTrie.j1 kj11 a1 t919 (t928 != t919) l0_0 t916 t925) else (laws_FnExactShiftTrie.j1 kj11 a1 t919 true l0_0 t916 t925))))) else (some false))) = some true := H
          have A57 := Aside0.mk A570
          clear A570
          replace H := Option.bind_eq_some_iff.mp H
          obtain ⟨t934, A580, H⟩ := H
          replace H : (if t934 = true then ((laws_markTrie.f kj11 t921 1).bind fun bt935 => (if bt935.1 < 0 then (laws_FnExactShiftTrie.j1 kj11 a1 t919 true l0_0 t916 t925) else ((laws_eqTrie.f kj11 t925 t916).bind fun t937 => (if t937 = true then (laws_FnExactShiftTrie.j1 kj11 a1 t919 (t928 != t919) l0_0 t916 t925) else (laws_FnExactShiftTrie.j1 kj11 a1 t919 true l0_0 t916 t925))))) else (some false)) = some true := H
          have A58 := Aside0.mk A580
          clear A580
          by_cases c59 : t934 = true
          · subst c59
            have H1 : ((laws_markTrie.f kj11 t921 1).bind fun bt935 => (if bt935.1 < 0 then (laws_FnExactShiftTrie.j1 kj11 a1 t919 true l0_0 t916 t925) else ((laws_eqTrie.f kj11 t925 t916).bind fun t937 => (if t937 = true then (laws_FnExactShiftTrie.j1 kj11 a1 t919 (t928 != t919) l0_0 t916 t925) else (laws_FnExactShiftTrie.j1 kj11 a1 t919 true l0_0 t916 t925))))) = some true := by rw [if_pos rfl] at H; exact H
            clear H
            have H := H1
            clear H1
            replace H := Option.bind_eq_some_iff.mp H
            obtain ⟨⟨t935, t936⟩, A600, H⟩ := H
            replace H : (if t935 < 0 then (laws_FnExactShiftTrie.j1 kj11 a1 t919 true l0_0 t916 t925) else ((laws_eqTrie.f kj11 t925 t916).bind fun t937 => (if t937 = true then (laws_FnExactShiftTrie.j1 kj11 a1 t919 (t928 != t919) l0_0 t916 t925) else (laws_FnExactShiftTrie.j1 kj11 a1 t919 true l0_0 t916 t925)))) = some true := H
            have A60 := Aside0.mk A600
            clear A600
            have HC61 := Aside0.mk H
            clear H
            try go_wp2
            have n0_ := Aside0.mk (Kd.R_drew HO_921000.out)
            have n1_ := Aside0.mk (Kd.R_drew HO_925000.out)
            have n2_ := Aside0.mk (Kd.R_drew HO_930000.out)
            have n3_ := Aside0.mk (blk_drew BK911.out)
            have n4_ := Aside0.mk (blk_drew BK920.out)
            have n5_ := Aside0.mk (blk_drew BK924.out)
            have n6_ := Aside0.mk (blk_drew BK929.out)
            have n7_ := Aside0.mk (below_drew1 HB.out)
            clear HO_921000
            clear HO_925000
            clear HO_930000
            clear BK911
            clear BK920
            clear BK924
            clear BK929
            clear HB
            have HO_921000 := n0_
            have HO_925000 := n1_
            have HO_930000 := n2_
            have BK911 := n3_
            have BK920 := n4_
            have BK924 := n5_
            have BK929 := n6_
            have HB := n7_
            clear n0_ n1_ n2_ n3_ n4_ n5_ n6_ n7_
            refine start_ (n := 5) (S := fun w' => w'.cell? ⟨gb924, 0, none⟩ = some (.slice Ao27 t921.length co27) ∧ w'.cell? ⟨gb911, 0, none⟩ = some (.slice A0_0 l0_0.length c0_0)) (ds := []) #[false, false, false, false, false] (by kernel_rfl) rfl rfl ⟨(blk_cell BK924.out 0).trans rfl, (blk_cell BK911.out 0).trans rfl⟩ (fun hHeld => ?_)
            generalize wc.drew = w62 at HO_921000 HO_925000 HO_930000 BK911 BK920 BK924 BK929 HB hHeld ⊢
            refine take_ (i := 0) (N := some 45) (v := ?_) (a' := ?_) #[true, false, false, false, false] rfl rfl (by kernel_rfl) (fun _ _ _ h => h) (Or.inl ⟨by rfl, ?_⟩) hHeld ?_ ?_
            rotate_left
            · rintro w' ⟨s0, s1⟩
              go_simp
              with_reducible rfl
            rotate_left
            · simp only [Act.put, List.setIfInBounds_toArray, List.set_cons_zero, List.set_cons_succ, i64_w, i32_w]
              rfl
            refine take_ (i := 1) (N := some 46) (v := ?_) (a' := ?_) #[true, true, false, false, false] rfl rfl (by kernel_rfl) (fun _ _ _ h => h) (Or.inl ⟨by rfl, ?_⟩) hHeld ?_ ?_
            rotate_left
            · rintro w' ⟨s0, s1⟩
              go_simp
              with_reducible rfl
            rotate_left
            · simp only [Act.put, List.setIfInBounds_toArray, List.set_cons_zero, List.set_cons_succ, i64_w, i32_w]
              rfl
            refine one_ (i := 2) (N := some 47) #[true, true, true, false, false] rfl rfl (by kernel_rfl) (by decide) (fun K hK => ?_)
            refine goes_ Tryd.func23 (by kernel_rfl) rfl #[.agg #[.slice A0_0 l0_0.length c0_0]] (by rfl) rfl rfl (by (try simp only [List.map_toArray, List.map_cons, List.map_nil]); first | done | rfl | (simp only [List.length_drop, List.length_take]; rfl)) ?_
            with_reducible refine (laws_toTrie.calls kj11 _ _ l0_0 t931 _ ?side1 ?side2 A57.out).mono ?_
            (case side1 => repeat (first | exact (Kd.C_below HR0_0.out HB.out) | (with_reducible refine Kd.C_alloc ?_ _) | (with_reducible refine Kd.C_drewN ?_ _) | (with_reducible refine Kd.C_drew ?_)))
            (case side2 => exact HC0_0.out)
            rintro e w63 ⟨v932, rfl, ho0, hb⟩
            refine ⟨_, rfl, ?_⟩
            have n0_ := Aside0.mk (Kd.R_elder' (by (with_reducible repeat (first | apply Kd.R_alloc | apply Kd.R_drewN | apply Kd.R_drew)); exact HO_921000.out) (Kd.R_base ho0) hb)
            have n1_ := Aside0.mk (Kd.R_elder' (by (with_reducible repeat (first | apply Kd.R_alloc | apply Kd.R_drewN | apply Kd.R_drew)); exact HO_925000.out) (Kd.R_base ho0) hb)
            have n2_ := Aside0.mk (Kd.R_elder' (by (with_reducible repeat (first | apply Kd.R_alloc | apply Kd.R_drewN | apply Kd.R_drew)); exact HO_930000.out) (Kd.R_base ho0) hb)
            have n3_ := Aside0.mk (Kd.R_lower (Kd.R_new' (Kd.R_new' (Kd.R_new' ho0 (Kd.R_lt (by (with_reducible repeat (first | apply Kd.R_alloc | apply Kd.R_drewN | apply Kd.R_drew)); exact HO_921000.out))) (Kd.R_lt (by (with_reducible repeat (first | apply Kd.R_alloc | apply Kd.R_drewN | apply Kd.R_drew)); exact HO_925000.out))) (Kd.R_lt (by (with_reducible repeat (first | apply Kd.R_alloc | apply Kd.R_drewN | apply Kd.R_drew)); exact HO_930000.out))) (below_size (by repeat (first | (with_reducible first | exact HB.out | apply below_alloc | apply pw_below_drewN | apply below_drew1 | refine below_set ?_ GE911.out | refine below_set ?_ GE920.out | refine below_set ?_ GE924.out | refine below_set ?_ GE929.out) | exact HB.out))))
            have n4_ := Aside0.mk (blk_below (g := gb911) (o := .cells #[.slice A0_0 l0_0.length c0_0] 36 (0, 0)) (by (with_reducible repeat (first | refine blk_drewN ?_ _ | refine blk_drew ?_ | refine blk_alloc ?_ _)); exact BK911.out) hb)
            have n5_ := Aside0.mk (blk_below (g := gb920) (o := .cells #[.slice Ao21 t916.length co21] 26 (0, 0)) (by (with_reducible repeat (first | refine blk_drewN ?_ _ | refine blk_drew ?_ | refine blk_alloc ?_ _)); exact BK920.out) hb)
            have n6_ := Aside0.mk (blk_below (g := gb924) (o := .cells #[.slice Ao27 t921.length co27] 26 (0, 0)) (by (with_reducible repeat (first | refine blk_drewN ?_ _ | refine blk_drew ?_ | refine blk_alloc ?_ _)); exact BK924.out) hb)
            have n7_ := Aside0.mk (blk_below (g := gb929) (o := .cells #[.slice Ao33 t925.length co33] 26 (0, 0)) (by (with_reducible repeat (first | refine blk_drewN ?_ _ | refine blk_drew ?_ | refine blk_alloc ?_ _)); exact BK929.out) hb)
            have n8_ := Aside0.mk (below_step (by repeat (first | (with_reducible first | exact HB.out | apply below_alloc | apply pw_below_drewN | apply below_drew1 | refine below_set ?_ GE911.out | refine below_set ?_ GE920.out | refine below_set ?_ GE924.out | refine below_set ?_ GE929.out) | exact HB.out)) hb)
            clear HO_921000
            clear HO_925000
            clear HO_930000
            clear BK911
            clear BK920
            clear BK924
            clear BK929
            clear HB
            have HO_921000 := n0_
            have HO_925000 := n1_
            have HO_930000 := n2_
            have HO933 := n3_
            have BK911 := n4_
            have BK920 := n5_
            have BK924 := n6_
            have BK929 := n7_
            have HB := n8_
            clear n0_ n1_ n2_ n3_ n4_ n5_ n6_ n7_ n8_
            (try clear hb)
            (try clear hb2)
            (try clear hk)
            (try clear hi)
            (try clear ho0)
            obtain ⟨Ao64, co64, eo64⟩ := Kd.R_slice HO933.out
            (first | subst eo64 | (injection eo64 with f1_ f2_ f3_; have f4_ := f1_.symm; have f5_ := f3_.symm; clear f1_ f2_ f3_; subst f4_; subst f5_))
            refine hK.out _ _ ⟨(blk_cell BK924.out 0).trans rfl, (blk_cell BK911.out 0).trans rfl⟩ (fun hHeld => ?_)
            clear hK K
            refine norm_ (a' := ?_) ?_ ?_
            rotate_left
            · show Act.put _ (some 47) _ = _
              simp only [Act.put, List.setIfInBounds_toArray, List.set_cons_zero, List.set_cons_succ, i64_w, i32_w]
              rfl
            refine one_ (i := 3) (N := some 48) #[true, true, true, true, false] rfl rfl (by kernel_rfl) (by decide) (fun K hK => ?_)
            refine goes_ Tryd.func16 (by kernel_rfl) rfl #[.agg #[.slice Ao27 t921.length co27], .agg #[.slice Ao64 t931.length co64]] (by rfl) rfl rfl (by (try simp only [List.map_toArray, List.map_cons, List.map_nil]); first | done | rfl | (simp only [List.length_drop, List.length_take]; rfl)) ?_
            with_reducible refine (laws_eqTrie.calls kj11 _ _ t921 _ _ t931 true _ ?side1 ?side2 ?side3 ?side4 A58.out).mono ?_
            (case side1 => repeat (first | exact (Kd.R_reads' HO_925000.out).2.2 | (with_reducible refine Kd.C_alloc ?_ _) | (with_reducible refine Kd.C_drewN ?_ _) | (with_reducible refine Kd.C_drew ?_)))
            (case side2 => exact (Kd.R_reads' HO_925000.out).2.1)
            (case side3 => repeat (first | exact (Kd.R_reads' HO933.out).2.2 | (with_reducible refine Kd.C_alloc ?_ _) | (with_reducible refine Kd.C_drewN ?_ _) | (with_reducible refine Kd.C_drew ?_)))
            (case side4 => exact (Kd.R_reads' HO933.out).2.1)
            rintro e w65 ⟨rfl, hb⟩
            refine ⟨_, rfl, ?_⟩
            have n0_ := Aside0.mk (Kd.R_below (by (with_reducible repeat (first | apply Kd.R_alloc | apply Kd.R_drewN | apply Kd.R_drew)); exact HO_921000.out) hb)
            have n1_ := Aside0.mk (Kd.R_below (by (with_reducible repeat (first | apply Kd.R_alloc | apply Kd.R_drewN | apply Kd.R_drew)); exact HO_925000.out) hb)
            have n2_ := Aside0.mk (Kd.R_below (by (with_reducible repeat (first | apply Kd.R_alloc | apply Kd.R_drewN | apply Kd.R_drew)); exact HO_930000.out) hb)
            have n3_ := Aside0.mk (Kd.R_below (by (with_reducible repeat (first | apply Kd.R_alloc | apply Kd.R_drewN | apply Kd.R_drew)); exact HO933.out) hb)
            have n4_ := Aside0.mk (blk_below (g := gb911) (o := .cells #[.slice A0_0 l0_0.length c0_0] 36 (0, 0)) (by (with_reducible repeat (first | refine blk_drewN ?_ _ | refine blk_drew ?_ | refine blk_alloc ?_ _)); exact BK911.out) hb)
            have n5_ := Aside0.mk (blk_below (g := gb920) (o := .cells #[.slice Ao21 t916.length co21] 26 (0, 0)) (by (with_reducible repeat (first | refine blk_drewN ?_ _ | refine blk_drew ?_ | refine blk_alloc ?_ _)); exact BK920.out) hb)
            have n6_ := Aside0.mk (blk_below (g := gb924) (o := .cells #[.slice Ao27 t921.length co27] 26 (0, 0)) (by (with_reducible repeat (first | refine blk_drewN ?_ _ | refine blk_drew ?_ | refine blk_alloc ?_ _)); exact BK924.out) hb)
            have n7_ := Aside0.mk (blk_below (g := gb929) (o := .cells #[.slice Ao33 t925.length co33] 26 (0, 0)) (by (with_reducible repeat (first | refine blk_drewN ?_ _ | refine blk_drew ?_ | refine blk_alloc ?_ _)); exact BK929.out) hb)
            have n8_ := Aside0.mk (below_step (by repeat (first | (with_reducible first | exact HB.out | apply below_alloc | apply pw_below_drewN | apply below_drew1 | refine below_set ?_ GE911.out | refine below_set ?_ GE920.out | refine below_set ?_ GE924.out | refine below_set ?_ GE929.out) | exact HB.out)) hb)
            clear HO_921000
            clear HO_925000
            clear HO_930000
            clear HO933
            clear BK911
            clear BK920
            clear BK924
            clear BK929
            clear HB
            have HO_921000 := n0_
            have HO_925000 := n1_
            have HO_930000 := n2_
            have HO933 := n3_
            have BK911 := n4_
            have BK920 := n5_
            have BK924 := n6_
            have BK929 := n7_
            have HB := n8_
            clear n0_ n1_ n2_ n3_ n4_ n5_ n6_ n7_ n8_
            (try clear hb)
            (try clear hb2)
            (try clear hk)
            (try clear hi)
            refine hK.out _ _ ⟨(blk_cell BK924.out 0).trans rfl, (blk_cell BK911.out 0).trans rfl⟩ (fun hHeld => ?_)
            clear hK K
            refine norm_ (a' := ?_) ?_ ?_
            rotate_left
            · show Act.put _ (some 48) _ = _
              simp only [Act.put, List.setIfInBounds_toArray, List.set_cons_zero, List.set_cons_succ, i64_w, i32_w]
              rfl
            refine pure_ (i := 4) (N := some 49) (v := ?_) (a' := ?_) #[true, true, true, true, true] rfl rfl (by kernel_rfl) (fun _ _ _ h => h) (Or.inl ⟨by rfl, ?_⟩) ?_ ?_
            rotate_left
            · intro w'
              go_simp
              with_reducible rfl
            rotate_left
            · simp only [Act.put, List.setIfInBounds_toArray, List.set_cons_zero, List.set_cons_succ, i64_w, i32_w]
              rfl
            refine done_ (by kernel_rfl) ?_
            have hnb66 := NB924_911.out
            have hnc66 := NB911_924.out
            have hnb67 := NB924_920.out
            have hnc67 := NB920_924.out
            have hnb68 := NB924_929.out
            have hnc68 := NB929_924.out
            have hcz69_0 : w65.cell? ⟨gb924, 0, none⟩ = some (.slice Ao27 t921.length co27) := (blk_cell BK924.out 0).trans rfl
            have hfz69_0 := blk_frozen BK924.out 0
            go_upto_region 14 with (first | ((with_reducible refine gate_callee (f := 19) rfl ?_); refine goesL_ (some 52) rfl rfl Tryd.func19 (by kernel_rfl) rfl #[.agg #[.slice Ao27 t921.length co27], .int .i64 1] rfl (by (try simp only [List.map_toArray, List.map_cons, List.map_nil]); first | done | rfl | (simp only [List.length_drop, List.length_take]; rfl)) ?_; (with_reducible refine (laws_markTrie.calls kj11 (fun k_ => some k_ = (.slice Ao27 t921.length co27 : Value).ownBlock) (.slice Ao27 t921.length co27) t921 1 t935 t936 w _ ?side1 ?side2 A60.out).mono ?_); (case side1 => repeat (first | (with_reducible first | exact HB.out | apply below_alloc | apply pw_below_drewN | apply below_drew1 | refine below_set ?_ GE911.out | refine below_set ?_ GE920.out | refine below_set ?_ GE924.out | refine below_set ?_ GE929.out) | exact HB.out)); (case side2 => exact Kd.R_tight rfl HO_925000.out); rintro e w70 ⟨rfl, hy0, hb, hkp⟩; refine ⟨_, rfl, ?_⟩; have n0_ := Aside0.mk (Kd.R_mono (ok' := fun k_ => some k_ ≠ (.slice Ao27 t921.length co27 : Value).ownBlock ∧ some k_ ≠ (.slice Ao33 t925.length co33 : Value).ownBlock ∧ some k_ ≠ (.slice Ao64 t931.length co64 : Value).ownBlock) (Kd.R_keptB (HO_921000.out) hkp (fun k_ hk_ hs_ => (hk_.1.1) hs_)) (fun k_ hk_ => ⟨hk_.1.1.1, hk_.1.1.2, hk_.1.2⟩)); have n1_ := Aside0.mk (Kd.R_reok rfl hy0 (fun k_ e_ => HO_925000.out.1 k_ e_)); have n2_ := Aside0.mk (Kd.R_mono (ok' := fun k_ => some k_ ≠ (.slice Ao21 t916.length co21 : Value).ownBlock ∧ some k_ ≠ (.slice Ao27 t921.length co27 : Value).ownBlock ∧ some k_ ≠ (.slice Ao64 t931.length co64 : Value).ownBlock) (Kd.R_keptB (HO_930000.out) hkp (fun k_ hk_ hs_ => (hk_.1.2) hs_)) (fun k_ hk_ => ⟨hk_.1.1.1, hk_.1.1.2, hk_.1.2⟩)); have n3_ := Aside0.mk (blk_kept (by (with_reducible repeat (first | refine blk_drewN ?_ _ | refine blk_drew ?_ | refine blk_alloc ?_ _)); exact BK911.out) hkp (fun hs_ => (fun e_ => (Kd.R_ne HO_925000.out BK911.out (by decide)) e_) hs_)); have n4_ := Aside0.mk (blk_kept (by (with_reducible repeat (first | refine blk_drewN ?_ _ | refine blk_drew ?_ | refine blk_alloc ?_ _)); exact BK920.out) hkp (fun hs_ => (fun e_ => (Kd.R_ne HO_925000.out BK920.out (by decide)) e_) hs_)); have n5_ := Aside0.mk (blk_kept (by (with_reducible repeat (first | refine blk_drewN ?_ _ | refine blk_drew ?_ | refine blk_alloc ?_ _)); exact BK924.out) hkp (fun hs_ => (fun e_ => (Kd.R_ne HO_925000.out BK924.out (by decide)) e_) hs_)); have n6_ := Aside0.mk (blk_kept (by (with_reducible repeat (first | refine blk_drewN ?_ _ | refine blk_drew ?_ | refine blk_alloc ?_ _)); exact BK929.out) hkp (fun hs_ => (fun e_ => (Kd.R_ne HO_925000.out BK929.out (by decide)) e_) hs_)); have n7_ := Aside0.mk (Kd.R_mono (ok' := fun k_ => some k_ ≠ (.slice Ao21 t916.length co21 : Value).ownBlock ∧ some k_ ≠ (.slice Ao27 t921.length co27 : Value).ownBlock ∧ some k_ ≠ (.slice Ao33 t925.length co33 : Value).ownBlock) (Kd.R_keptB (HO933.out) hkp (fun k_ hk_ hs_ => (hk_.1.2) hs_)) (fun k_ hk_ => ⟨hk_.1.1.1.2, hk_.1.1.2, hk_.1.2⟩)); have n8_ := Aside0.mk (hb); clear HO_921000; clear HO_925000; clear HO_930000; clear BK911; clear BK920; clear BK924; clear BK929; clear HO933; clear HB; have HO_921000 := n0_; have HO_925000 := n1_; have HO_930000 := n2_; have BK911 := n3_; have BK920 := n4_; have BK924 := n5_; have BK929 := n6_; have HO933 := n7_; have HB := n8_; clear n0_ n1_ n2_ n3_ n4_ n5_ n6_ n7_ n8_; (try clear hb); (try clear hkp); (try clear hy0)))
            (try simp only [Act.put, List.setIfInBounds_toArray, List.set_cons_zero, List.set_cons_succ])
            go_cut [65] (fun v65 wc => ∃ (kq : Nat) (x65_60 : Bool), v65 = .bool x65_60 ∧ Aside0 (laws_FnExactShiftTrie.j1 kq a1 t919 x65_60 l0_0 t916 t925 = some true) ∧ Aside0 (kq ≤ kj11) ∧ Aside0 (Kd.R k76 76 wc w.heap.size (fun k_ => some k_ ≠ ((.slice Ao27 t921.length co27) : Value).ownBlock ∧ some k_ ≠ ((.slice Ao33 t925.length co33) : Value).ownBlock) (.slice Ao21 t916.length co21) t916) ∧ Aside0 (Kd.R k76 76 wc w.heap.size (fun k_ => some k_ ≠ ((.slice Ao21 t916.length co21) : Value).ownBlock ∧ some k_ ≠ ((.slice Ao33 t925.length co33) : Value).ownBlock) (.slice Ao27 t921.length co27) t936) ∧ Aside0 (Kd.R k76 76 wc w.heap.size (fun k_ => some k_ ≠ ((.slice Ao21 t916.length co21) : Value).ownBlock ∧ some k_ ≠ ((.slice Ao27 t921.length co27) : Value).ownBlock) (.slice Ao33 t925.length co33) t925) ∧ Aside0 (wc.heap[gb911]? = some (.cells #[(.slice A0_0 l0_0.length c0_0)] 36 (0, 0))) ∧ Aside0 (wc.heap[gb920]? = some (.cells #[(.slice Ao21 t916.length co21)] 26 (0, 0))) ∧ Aside0 (wc.heap[gb924]? = some (.cells #[(.slice Ao27 t921.length co27)] 26 (0, 0))) ∧ Aside0 (wc.heap[gb929]? = some (.cells #[(.slice Ao33 t925.length co33)] 26 (0, 0))) ∧ Aside0 (Below w.heap.size w wc))
            case first =>
              have H := HC61.out
              clear HC61
              by_cases c71 : t935 < 0
              · rw [if_pos c71] at H
                exact absurd H (by cases kj11 <;> simp [laws_FnExactShiftTrie.j1])
              · rw [if_neg c71] at H
                have c71b0 : decide (t935 < 0) = false := decide_eq_false c71
                clear c71
                (first | rw [c71b0] | (simp only [i64_w, i32_w]; rw [c71b0]) | skip)
                replace H := Option.bind_eq_some_iff.mp H
                obtain ⟨t937, A720, H⟩ := H
                replace H : (if t937 = true then (laws_FnExactShiftTrie.j1 kj11 a1 t919 (t928 != t919) l0_0 t916 t925) else (laws_FnExactShiftTrie.j1 kj11 a1 t919 true l0_0 t916 t925)) = some true := H
                have A72 := Aside0.mk A720
                clear A720
                by_cases c73 : t937 = true
                · subst c73
                  have H1 : (laws_FnExactShiftTrie.j1 kj11 a1 t919 (t928 != t919) l0_0 t916 t925) = some true := by rw [if_pos rfl] at H; exact H
                  clear H
                  have H := H1
                  clear H1
                  have H' := Aside0.mk H
                  clear H
                  have hnb74 := NB929_911.out
                  have hnc74 := NB911_929.out
                  have hnb75 := NB929_920.out
                  have hnc75 := NB920_929.out
                  have hnb76 := NB929_924.out
                  have hnc76 := NB924_929.out
                  have hcz77_0 : w70.cell? ⟨gb929, 0, none⟩ = some (.slice Ao33 t925.length co33) := (blk_cell BK929.out 0).trans rfl
                  have hfz77_0 := blk_frozen BK929.out 0
                  have hnb78 := NB920_911.out
                  have hnc78 := NB911_920.out
                  have hnb79 := NB920_924.out
                  have hnc79 := NB924_920.out
                  have hcz80_0 : w70.cell? ⟨gb920, 0, none⟩ = some (.slice Ao21 t916.length co21) := (blk_cell BK920.out 0).trans rfl
                  have hfz80_0 := blk_frozen BK920.out 0
                  go_wp2_with (first | (go_at_call 16; (with_reducible refine (laws_eqTrie.calls kj11 _ _ t925 _ _ t916 true _ ?side1 ?side2 ?side3 ?side4 A72.out).mono ?_); (case side1 => repeat (first | exact (Kd.R_reads' HO_930000.out).2.2 | (with_reducible refine Kd.C_alloc ?_ _) | (with_reducible refine Kd.C_drewN ?_ _) | (with_reducible refine Kd.C_drew ?_))); (case side2 => exact (Kd.R_reads' HO_930000.out).2.1); (case side3 => repeat (first | exact (Kd.R_reads' HO_921000.out).2.2 | (with_reducible refine Kd.C_alloc ?_ _) | (with_reducible refine Kd.C_drewN ?_ _) | (with_reducible refine Kd.C_drew ?_))); (case side4 => exact (Kd.R_reads' HO_921000.out).2.1); rintro e w81 ⟨rfl, hb⟩; have n0_ := Aside0.mk (Kd.R_below (by (with_reducible repeat (first | apply Kd.R_alloc | apply Kd.R_drewN | apply Kd.R_drew)); exact HO_921000.out) hb); have n1_ := Aside0.mk (Kd.R_below (by (with_reducible repeat (first | apply Kd.R_alloc | apply Kd.R_drewN | apply Kd.R_drew)); exact HO_925000.out) hb); have n2_ := Aside0.mk (Kd.R_below (by (with_reducible repeat (first | apply Kd.R_alloc | apply Kd.R_drewN | apply Kd.R_drew)); exact HO_930000.out) hb); have n3_ := Aside0.mk (Kd.R_below (by (with_reducible repeat (first | apply Kd.R_alloc | apply Kd.R_drewN | apply Kd.R_drew)); exact HO933.out) hb); have n4_ := Aside0.mk (blk_below (g := gb911) (o := .cells #[.slice A0_0 l0_0.length c0_0] 36 (0, 0)) (by (with_reducible repeat (first | refine blk_drewN ?_ _ | refine blk_drew ?_ | refine blk_alloc ?_ _)); exact BK911.out) hb); have n5_ := Aside0.mk (blk_below (g := gb920) (o := .cells #[.slice Ao21 t916.length co21] 26 (0, 0)) (by (with_reducible repeat (first | refine blk_drewN ?_ _ | refine blk_drew ?_ | refine blk_alloc ?_ _)); exact BK920.out) hb); have n6_ := Aside0.mk (blk_below (g := gb924) (o := .cells #[.slice Ao27 t921.length co27] 26 (0, 0)) (by (with_reducible repeat (first | refine blk_drewN ?_ _ | refine blk_drew ?_ | refine blk_alloc ?_ _)); exact BK924.out) hb); have n7_ := Aside0.mk (blk_below (g := gb929) (o := .cells #[.slice Ao33 t925.length co33] 26 (0, 0)) (by (with_reducible repeat (first | refine blk_drewN ?_ _ | refine blk_drew ?_ | refine blk_alloc ?_ _)); exact BK929.out) hb); have n8_ := Aside0.mk (below_step (by repeat (first | (with_reducible first | exact HB.out | apply below_alloc | apply pw_below_drewN | apply below_drew1 | refine below_set ?_ GE911.out | refine below_set ?_ GE920.out | refine below_set ?_ GE924.out | refine below_set ?_ GE929.out) | exact HB.out)) hb); clear HO_921000; clear HO_925000; clear HO_930000; clear HO933; clear BK911; clear BK920; clear BK924; clear BK929; clear HB; have HO_921000 := n0_; have HO_925000 := n1_; have HO_930000 := n2_; have HO933 := n3_; have BK911 := n4_; have BK920 := n5_; have BK924 := n6_; have BK929 := n7_; have HB := n8_; clear n0_ n1_ n2_ n3_ n4_ n5_ n6_ n7_ n8_; (try clear hb); (try clear hb2); (try clear hk); (try clear hi)))
                  go_meet
                  case rel => exact ⟨_, ((t928 != t919)), (by first | rfl | (simp; done) | (simp [*]; done)), H', ⟨by have := HJ11.out; first | omega | exact Nat.le_refl _⟩, ⟨by (with_reducible repeat (first | apply Kd.R_alloc | apply Kd.R_drewN | apply Kd.R_drew)); exact Kd.R_mono HO_921000.out (fun _ hk => ⟨hk.1, hk.2.1⟩)⟩, ⟨by (with_reducible repeat (first | apply Kd.R_alloc | apply Kd.R_drewN | apply Kd.R_drew)); exact Kd.R_mono HO_925000.out (fun _ hk => ⟨hk.1.1, hk.1.2⟩)⟩, ⟨by (with_reducible repeat (first | apply Kd.R_alloc | apply Kd.R_drewN | apply Kd.R_drew)); exact Kd.R_mono HO_930000.out (fun _ hk => ⟨hk.1, hk.2.1⟩)⟩, ⟨by (with_reducible repeat (first | refine blk_drewN ?_ _ | refine blk_drew ?_ | refine blk_alloc ?_ _)); exact BK911.out⟩, ⟨by (with_reducible repeat (first | refine blk_drewN ?_ _ | refine blk_drew ?_ | refine blk_alloc ?_ _)); exact BK920.out⟩, ⟨by (with_reducible repeat (first | refine blk_drewN ?_ _ | refine blk_drew ?_ | refine blk_alloc ?_ _)); exact BK924.out⟩, ⟨by (with_reducible repeat (first | refine blk_drewN ?_ _ | refine blk_drew ?_ | refine blk_alloc ?_ _)); exact BK929.out⟩, ⟨by repeat (first | (with_reducible first | exact HB.out | apply below_alloc | apply pw_below_drewN | apply below_drew1 | refine below_set ?_ GE911.out | refine below_set ?_ GE920.out | refine below_set ?_ GE924.out | refine below_set ?_ GE929.out) | exact HB.out)⟩⟩
                · replace c73 := Bool.eq_false_iff.mpr c73
                  subst c73
                  have H1 : (laws_FnExactShiftTrie.j1 kj11 a1 t919 true l0_0 t916 t925) = some true := by rw [if_neg (show ¬ (false = true) by decide)] at H; exact H
                  exact absurd H1 (by cases kj11 <;> simp [laws_FnExactShiftTrie.j1])
            case rest =>
              clear HC61
              try clear c1
              try clear c2
              try clear p2
              try clear c3
              try clear c4
              try clear c4b0
              try clear c5
              try clear c6
              try clear c7
              try clear c8
              try clear c11
              try clear c16
              try clear c19
              try clear c21
              try clear c22
              try clear c23
              try clear c28
              try clear c29
              try clear c34
              try clear c35
              try clear c36
              try clear c37
              try clear c38
              try clear c39
              try clear c40
              try clear c41
              try clear c42
              try clear c44
              try clear c45
              try clear c48
              try clear c49
              try clear c50
              try clear c52
              try clear c53
              try clear c56
              try clear c59
              try clear c66
              try clear c67
              try clear c68
              try clear c71
              try clear c71b0
              try clear c73
              try clear c74
              try clear c75
              try clear c76
              try clear c78
              try clear c79
              try clear c82
              try clear c83
              try clear c84
              try clear c86
              try clear c87
              try clear hcz14_0
              try clear hcz16_0
              try clear hcz23_0
              try clear hcz24_0
              try clear hcz30_0
              try clear hcz37_0
              try clear hcz43_0
              try clear hcz46_0
              try clear hcz51_0
              try clear hcz54_0
              try clear hcz69_0
              try clear hcz6_0
              try clear hcz77_0
              try clear hcz80_0
              try clear hcz85_0
              try clear hcz88_0
              try clear hfz14_0
              try clear hfz16_0
              try clear hfz23_0
              try clear hfz24_0
              try clear hfz30_0
              try clear hfz37_0
              try clear hfz43_0
              try clear hfz46_0
              try clear hfz51_0
              try clear hfz54_0
              try clear hfz69_0
              try clear hfz6_0
              try clear hfz77_0
              try clear hfz80_0
              try clear hfz85_0
              try clear hfz88_0
              try clear p2
              obtain ⟨kq, x65_60, rfl, HA, HJ60, HO_921000, HO_925000, HO_930000, BK911, BK920, BK924, BK929, HB⟩ := hcut
              have hl925000_60 := (Kd.R_reads' HO_925000.out).1
              rw [hl925000_60] at HO_925000
              (try simp only [hl925000_60])
              (try simp only [hl925000_60] at BK911)
              (try simp only [hl925000_60] at BK920)
              (try simp only [hl925000_60] at BK924)
              (try simp only [hl925000_60] at BK929)
              (try simp only [hl925000_60] at HO_921000)
              (try simp only [hl925000_60] at HO_930000)
              cases kq with
              | zero => exact absurd HA.out (by simp [laws_FnExactShiftTrie.j1])
              | succ kj60 =>
                have H := HA.out
                clear HA
                simp only [laws_FnExactShiftTrie.j1] at H
                by_cases c90 : x65_60 = true
                · subst c90
                  have H1 : (some false) = some true := by rw [if_pos rfl] at H; exact H
                  exact absurd H1 (by simp)
                · replace c90 := Bool.eq_false_iff.mpr c90
                  subst c90
                  have H1 : ((laws_markTrie.f kj60 t925 1).bind fun bt938 => ((laws_heldTrie.f kj60 bt938.2 1).bind fun t940 => (if t940 < 0 then (some false) else (if t940 = bt938.1 then ((laws_toTrie.f kj60 l0_0).bind fun t941 => ((impl_ShiftTrie.f t941 a1).bind fun bt944 => ((laws_eqTrie.f kj60 bt944.1 t916).bind fun t949 => (if t949 = true then (laws_FnExactShiftTrie.j2 kj60 bt938.1 (bt944.2 != t919) bt938.2) else (laws_FnExactShiftTrie.j2 kj60 bt938.1 true bt938.2))))) else (some false))))) = some true := by rw [if_neg (show ¬ (false = true) by decide)] at H; exact H
                  clear H
                  have H := H1
                  clear H1
                  replace H := Option.bind_eq_some_iff.mp H
                  obtain ⟨⟨t938, t939⟩, A910, H⟩ := H
                  replace H : ((laws_heldTrie.f kj60 t939 1).bind fun t940 => (if t940 < 0 then (some false) else (if t940 = t938 then ((laws_toTrie.f kj60 l0_0).bind fun t941 => ((impl_ShiftTrie.f t941 a1).bind fun bt944 => ((laws_eqTrie.f kj60 bt944.1 t916).bind fun t949 => (if t949 = true then (laws_FnExactShiftTrie.j2 kj60 t938 (bt944.2 != t919) t939) else (laws_FnExactShiftTrie.j2 kj60 t938 true t939))))) else (some false)))) = some true := H
                  have A91 := Aside0.mk A910
                  clear A910
                  replace H := Option.bind_eq_some_iff.mp H
                  obtain ⟨t940, A920, H⟩ := H
                  replace H : (if t940 < 0 then (some false) else (if t940 = t938 then ((laws_toTrie.f kj60 l0_0).bind fun t941 => ((impl_ShiftTrie.f t941 a1).bind fun bt944 => ((laws_eqTrie.f kj60 bt944.1 t916).bind fun t949 => (if t949 = true then (laws_FnExactShiftTrie.j2 kj60 t938 (bt944.2 != t919) t939) else (laws_FnExactShiftTrie.j2 kj60 t938 true t939))))) else (some false))) = some true := H
                  have A92 := Aside0.mk A920
                  clear A920
                  by_cases c93 : t940 < 0
                  · rw [if_pos c93] at H
                    exact absurd H (by simp)
                  · rw [if_neg c93] at H
                    have c93b0 : decide (t940 < 0) = false := decide_eq_false c93
                    clear c93
                    by_cases c101 : t940 = t938
                    · rw [if_pos c101] at H
                      have c101b0 : (t940 == t938) = true := beq_iff_eq.mpr c101
                      have c101b1 : (t940 != t938) = false := bne_eq_false_iff_eq.mpr c101
                      clear c101
                      replace H := Option.bind_eq_some_iff.mp H
                      obtain ⟨t941, A1020, H⟩ := H
                      replace H : ((impl_ShiftTrie.f t941 a1).bind fun bt944 => ((laws_eqTrie.f kj60 bt944.1 t916).bind fun t949 => (if t949 = true then (laws_FnExactShiftTrie.j2 kj60 t938 (bt944.2 != t919) t939) else (laws_FnExactShiftTrie.j2 kj60 t938 true t939)))) = some true := H
                      have A102 := Aside0.mk A1020
                      clear A1020
                      replace H := Option.bind_eq_some_iff.mp H
                      obtain ⟨⟨t944, t947⟩, A1030, H⟩ := H
                      replace H : ((laws_eqTrie.f kj60 t944 t916).bind fun t949 => (if t949 = true then (laws_FnExactShiftTrie.j2 kj60 t938 (t947 != t919) t939) else (laws_FnExactShiftTrie.j2 kj60 t938 true t939))) = some true := H
                      have A103 := Aside0.mk A1030
                      clear A1030
                      have HC104 := Aside0.mk H
                      clear H
                      have hnb105 := NB929_911.out
                      have hnc105 := NB911_929.out
                      have hnb106 := NB929_920.out
                      have hnc106 := NB920_929.out
                      have hnb107 := NB929_924.out
                      have hnc107 := NB924_929.out
                      have hcz108_0 : wc.cell? ⟨gb929, 0, none⟩ = some (.slice Ao33 t925.length co33) := (blk_cell BK929.out 0).trans rfl
                      have hfz108_0 := blk_frozen BK929.out 0
                      go_upto_region 25 with (first | ((with_reducible refine gate_callee (f := 19) rfl ?_); refine goesL_ (some 68) rfl rfl Tryd.func19 (by kernel_rfl) rfl #[.agg #[.slice Ao33 t925.length co33], .int .i64 1] rfl (by (try simp only [List.map_toArray, List.map_cons, List.map_nil]); first | done | rfl | (simp only [List.length_drop, List.length_take]; rfl)) ?_; (with_reducible refine (laws_markTrie.calls kj60 (fun k_ => some k_ = (.slice Ao33 t925.length co33 : Value).ownBlock) (.slice Ao33 t925.length co33) t925 1 t938 t939 w _ ?side1 ?side2 A91.out).mono ?_); (case side1 => repeat (first | (with_reducible first | exact HB.out | apply below_alloc | apply pw_below_drewN | apply below_drew1 | refine below_set ?_ GE911.out | refine below_set ?_ GE920.out | refine below_set ?_ GE924.out | refine below_set ?_ GE929.out) | exact HB.out)); (case side2 => exact Kd.R_tight rfl HO_930000.out); rintro e w109 ⟨rfl, hy0, hb, hkp⟩; refine ⟨_, rfl, ?_⟩; have n0_ := Aside0.mk (Kd.R_mono (ok' := fun k_ => some k_ ≠ (.slice Ao27 t936.length co27 : Value).ownBlock ∧ some k_ ≠ (.slice Ao33 t925.length co33 : Value).ownBlock) (Kd.R_keptB (HO_921000.out) hkp (fun k_ hk_ hs_ => (hk_.2) hs_)) (fun k_ hk_ => ⟨hk_.1.1, hk_.1.2⟩)); have n1_ := Aside0.mk (Kd.R_mono (ok' := fun k_ => some k_ ≠ (.slice Ao21 t916.length co21 : Value).ownBlock ∧ some k_ ≠ (.slice Ao33 t925.length co33 : Value).ownBlock) (Kd.R_keptB (HO_925000.out) hkp (fun k_ hk_ hs_ => (hk_.2) hs_)) (fun k_ hk_ => ⟨hk_.1.1, hk_.1.2⟩)); have n2_ := Aside0.mk (Kd.R_reok rfl hy0 (fun k_ e_ => HO_930000.out.1 k_ e_)); have n3_ := Aside0.mk (blk_kept (by (with_reducible repeat (first | refine blk_drewN ?_ _ | refine blk_drew ?_ | refine blk_alloc ?_ _)); exact BK911.out) hkp (fun hs_ => (fun e_ => (Kd.R_ne HO_930000.out BK911.out (by decide)) e_) hs_)); have n4_ := Aside0.mk (blk_kept (by (with_reducible repeat (first | refine blk_drewN ?_ _ | refine blk_drew ?_ | refine blk_alloc ?_ _)); exact BK920.out) hkp (fun hs_ => (fun e_ => (Kd.R_ne HO_930000.out BK920.out (by decide)) e_) hs_)); have n5_ := Aside0.mk (blk_kept (by (with_reducible repeat (first | refine blk_drewN ?_ _ | refine blk_drew ?_ | refine blk_alloc ?_ _)); exact BK924.out) hkp (fun hs_ => (fun e_ => (Kd.R_ne HO_930000.out BK924.out (by decide)) e_) hs_)); have n6_ := Aside0.mk (blk_kept (by (with_reducible repeat (first | refine blk_drewN ?_ _ | refine blk_drew ?_ | refine blk_alloc ?_ _)); exact BK929.out) hkp (fun hs_ => (fun e_ => (Kd.R_ne HO_930000.out BK929.out (by decide)) e_) hs_)); have n7_ := Aside0.mk (hb); clear HO_921000; clear HO_925000; clear HO_930000; clear BK911; clear BK920; clear BK924; clear BK929; clear HB; have HO_921000 := n0_; have HO_925000 := n1_; have HO_930000 := n2_; have BK911 := n3_; have BK920 := n4_; have BK924 := n5_; have BK929 := n6_; have HB := n7_; clear n0_ n1_ n2_ n3_ n4_ n5_ n6_ n7_; (try clear hb); (try clear hkp); (try clear hy0); have hcz110_0 : w109.cell? ⟨gb929, 0, none⟩ = some (.slice Ao33 t925.length co33) := (blk_cell BK929.out 0).trans rfl; have hfz110_0 := blk_frozen BK929.out 0) | ((with_reducible refine gate_callee (f := 20) rfl ?_); refine goesL_ (some 71) rfl rfl Tryd.func20 (by kernel_rfl) rfl #[.agg #[.slice Ao33 t939.length co33], .int .i64 1] rfl (by (try simp only [List.map_toArray, List.map_cons, List.map_nil]); first | done | (rw [show t939.length = t925.length from (Kd.R_reads' HO_930000.out).1.symm] <;> rfl) | rfl | (simp only [List.length_drop, List.length_take]; rfl)) ?_; (with_reducible refine (laws_heldTrie.calls kj60 _ _ t939 1 t940 _ ?side1 ?side2 A92.out).mono ?_); (case side1 => repeat (first | exact (Kd.R_reads' HO_930000.out).2.2 | (with_reducible refine Kd.C_alloc ?_ _) | (with_reducible refine Kd.C_drewN ?_ _) | (with_reducible refine Kd.C_drew ?_))); (case side2 => rw [show t939.length = t925.length from (Kd.R_reads' HO_930000.out).1.symm]; exact (Kd.R_reads' HO_930000.out).2.1); rintro e w111 ⟨rfl, hb⟩; refine ⟨_, rfl, ?_⟩; have n0_ := Aside0.mk (Kd.R_below (by (with_reducible repeat (first | apply Kd.R_alloc | apply Kd.R_drewN | apply Kd.R_drew)); exact HO_921000.out) hb); have n1_ := Aside0.mk (Kd.R_below (by (with_reducible repeat (first | apply Kd.R_alloc | apply Kd.R_drewN | apply Kd.R_drew)); exact HO_925000.out) hb); have n2_ := Aside0.mk (Kd.R_below (by (with_reducible repeat (first | apply Kd.R_alloc | apply Kd.R_drewN | apply Kd.R_drew)); exact HO_930000.out) hb); have n3_ := Aside0.mk (blk_below (g := gb911) (o := .cells #[.slice A0_0 l0_0.length c0_0] 36 (0, 0)) (by (with_reducible repeat (first | refine blk_drewN ?_ _ | refine blk_drew ?_ | refine blk_alloc ?_ _)); exact BK911.out) hb); have n4_ := Aside0.mk (blk_below (g := gb920) (o := .cells #[.slice Ao21 t916.length co21] 26 (0, 0)) (by (with_reducible repeat (first | refine blk_drewN ?_ _ | refine blk_drew ?_ | refine blk_alloc ?_ _)); exact BK920.out) hb); have n5_ := Aside0.mk (blk_below (g := gb924) (o := .cells #[.slice Ao27 t936.length co27] 26 (0, 0)) (by (with_reducible repeat (first | refine blk_drewN ?_ _ | refine blk_drew ?_ | refine blk_alloc ?_ _)); exact BK924.out) hb); have n6_ := Aside0.mk (blk_below (g := gb929) (o := .cells #[.slice Ao33 t925.length co33] 26 (0, 0)) (by (with_reducible repeat (first | refine blk_drewN ?_ _ | refine blk_drew ?_ | refine blk_alloc ?_ _)); exact BK929.out) hb); have n7_ := Aside0.mk (below_step (by repeat (first | (with_reducible first | exact HB.out | apply below_alloc | apply pw_below_drewN | apply below_drew1 | refine below_set ?_ GE911.out | refine below_set ?_ GE920.out | refine below_set ?_ GE924.out | refine below_set ?_ GE929.out) | exact HB.out)) hb); clear HO_921000; clear HO_925000; clear HO_930000; clear BK911; clear BK920; clear BK924; clear BK929; clear HB; have HO_921000 := n0_; have HO_925000 := n1_; have HO_930000 := n2_; have BK911 := n3_; have BK920 := n4_; have BK924 := n5_; have BK929 := n6_; have HB := n7_; clear n0_ n1_ n2_ n3_ n4_ n5_ n6_ n7_; (try clear hb); (try clear hb2); (try clear hk); (try clear hi); have hnb112 := NB911_920.out; have hnc112 := NB920_911.out; have hnb113 := NB911_924.out; have hnc113 := NB924_911.out; have hcz114_0 : w111.cell? ⟨gb911, 0, none⟩ = some (.slice A0_0 l0_0.length c0_0) := (blk_cell BK911.out 0).trans rfl; have hfz114_0 := blk_frozen BK911.out 0) | ((with_reducible refine gate_callee (f := 23) rfl ?_); refine goesL_ (some 79) rfl rfl Tryd.func23 (by kernel_rfl) rfl #[.agg #[.slice A0_0 l0_0.length c0_0]] rfl (by (try simp only [List.map_toArray, List.map_cons, List.map_nil]); first | done | rfl | (simp only [List.length_drop, List.length_take]; rfl)) ?_; (with_reducible refine (laws_toTrie.calls kj60 _ _ l0_0 t941 _ ?side1 ?side2 A102.out).mono ?_); (case side1 => repeat (first | exact (Kd.C_below HR0_0.out HB.out) | (with_reducible refine Kd.C_alloc ?_ _) | (with_reducible refine Kd.C_drewN ?_ _) | (with_reducible refine Kd.C_drew ?_))); (case side2 => exact HC0_0.out); rintro e w115 ⟨v942, rfl, ho0, hb⟩; refine ⟨_, rfl, ?_⟩; have n0_ := Aside0.mk (Kd.R_elder' (by (with_reducible repeat (first | apply Kd.R_alloc | apply Kd.R_drewN | apply Kd.R_drew)); exact HO_921000.out) (Kd.R_base ho0) hb); have n1_ := Aside0.mk (Kd.R_elder' (by (with_reducible repeat (first | apply Kd.R_alloc | apply Kd.R_drewN | apply Kd.R_drew)); exact HO_925000.out) (Kd.R_base ho0) hb); have n2_ := Aside0.mk (Kd.R_elder' (by (with_reducible repeat (first | apply Kd.R_alloc | apply Kd.R_drewN | apply Kd.R_drew)); exact HO_930000.out) (Kd.R_base ho0) hb); have n3_ := Aside0.mk (Kd.R_lower (Kd.R_new' (Kd.R_new' (Kd.R_new' ho0 (Kd.R_lt (by (with_reducible repeat (first | apply Kd.R_alloc | apply Kd.R_drewN | apply Kd.R_drew)); exact HO_921000.out))) (Kd.R_lt (by (with_reducible repeat (first | apply Kd.R_alloc | apply Kd.R_drewN | apply Kd.R_drew)); exact HO_925000.out))) (Kd.R_lt (by (with_reducible repeat (first | apply Kd.R_alloc | apply Kd.R_drewN | apply Kd.R_drew)); exact HO_930000.out))) (below_size (by repeat (first | (with_reducible first | exact HB.out | apply below_alloc | apply pw_below_drewN | apply below_drew1 | refine below_set ?_ GE911.out | refine below_set ?_ GE920.out | refine below_set ?_ GE924.out | refine below_set ?_ GE929.out) | exact HB.out)))); have n4_ := Aside0.mk (blk_below (g := gb911) (o := .cells #[.slice A0_0 l0_0.length c0_0] 36 (0, 0)) (by (with_reducible repeat (first | refine blk_drewN ?_ _ | refine blk_drew ?_ | refine blk_alloc ?_ _)); exact BK911.out) hb); have n5_ := Aside0.mk (blk_below (g := gb920) (o := .cells #[.slice Ao21 t916.length co21] 26 (0, 0)) (by (with_reducible repeat (first | refine blk_drewN ?_ _ | refine blk_drew ?_ | refine blk_alloc ?_ _)); exact BK920.out) hb); have n6_ := Aside0.mk (blk_below (g := gb924) (o := .cells #[.slice Ao27 t936.length co27] 26 (0, 0)) (by (with_reducible repeat (first | refine blk_drewN ?_ _ | refine blk_drew ?_ | refine blk_alloc ?_ _)); exact BK924.out) hb); have n7_ := Aside0.mk (blk_below (g := gb929) (o := .cells #[.slice Ao33 t925.length co33] 26 (0, 0)) (by (with_reducible repeat (first | refine blk_drewN ?_ _ | refine blk_drew ?_ | refine blk_alloc ?_ _)); exact BK929.out) hb); have n8_ := Aside0.mk (below_step (by repeat (first | (with_reducible first | exact HB.out | apply below_alloc | apply pw_below_drewN | apply below_drew1 | refine below_set ?_ GE911.out | refine below_set ?_ GE920.out | refine below_set ?_ GE924.out | refine below_set ?_ GE929.out) | exact HB.out)) hb); clear HO_921000; clear HO_925000; clear HO_930000; clear BK911; clear BK920; clear BK924; clear BK929; clear HB; have HO_921000 := n0_; have HO_925000 := n1_; have HO_930000 := n2_; have HO943 := n3_; have BK911 := n4_; have BK920 := n5_; have BK924 := n6_; have BK929 := n7_; have HB := n8_; clear n0_ n1_ n2_ n3_ n4_ n5_ n6_ n7_ n8_; (try clear hb); (try clear hb2); (try clear hk); (try clear hi); (try clear ho0); obtain ⟨Ao116, co116, eo116⟩ := Kd.R_slice HO943.out; subst eo116) | ((with_reducible refine gate_callee (f := 38) rfl ?_); refine goesL_ (some 81) rfl rfl Tryd.func38 (by kernel_rfl) rfl #[.agg #[.slice Ao116 t941.length co116], .int .i64 a1] rfl (by (try simp only [List.map_toArray, List.map_cons, List.map_nil]); first | done | rfl | (simp only [List.length_drop, List.length_take]; rfl)) ?_; (with_reducible refine (impl_ShiftTrie.calls _ _ t941 a1 t944 t947 _ ?side1 ?side2 A103.out).mono ?_); (case side1 => repeat (first | exact (Kd.R_reads' HO943.out).2.2 | (with_reducible refine Kd.C_alloc ?_ _) | (with_reducible refine Kd.C_drewN ?_ _) | (with_reducible refine Kd.C_drew ?_))); (case side2 => exact (Kd.R_reads' HO943.out).2.1); rintro e w117 ⟨v945, rfl, ho0, hb⟩; refine ⟨_, rfl, ?_⟩; have n0_ := Aside0.mk (Kd.R_elder' (by (with_reducible repeat (first | apply Kd.R_alloc | apply Kd.R_drewN | apply Kd.R_drew)); exact HO_921000.out) (Kd.R_base ho0) hb); have n1_ := Aside0.mk (Kd.R_elder' (by (with_reducible repeat (first | apply Kd.R_alloc | apply Kd.R_drewN | apply Kd.R_drew)); exact HO_925000.out) (Kd.R_base ho0) hb); have n2_ := Aside0.mk (Kd.R_elder' (by (with_reducible repeat (first | apply Kd.R_alloc | apply Kd.R_drewN | apply Kd.R_drew)); exact HO_930000.out) (Kd.R_base ho0) hb); have n3_ := Aside0.mk (Kd.R_elder' (by (with_reducible repeat (first | apply Kd.R_alloc | apply Kd.R_drewN | apply Kd.R_drew)); exact HO943.out) (Kd.R_base ho0) hb); have n4_ := Aside0.mk (Kd.R_lower (Kd.R_new' (Kd.R_new' (Kd.R_new' (Kd.R_new' ho0 (Kd.R_lt (by (with_reducible repeat (first | apply Kd.R_alloc | apply Kd.R_drewN | apply Kd.R_drew)); exact HO_921000.out))) (Kd.R_lt (by (with_reducible repeat (first | apply Kd.R_alloc | apply Kd.R_drewN | apply Kd.R_drew)); exact HO_925000.out))) (Kd.R_lt (by (with_reducible repeat (first | apply Kd.R_alloc | apply Kd.R_drewN | apply Kd.R_drew)); exact HO_930000.out))) (Kd.R_lt (by (with_reducible repeat (first | apply Kd.R_alloc | apply Kd.R_drewN | apply Kd.R_drew)); exact HO943.out))) (below_size (by repeat (first | (with_reducible first | exact HB.out | apply below_alloc | apply pw_below_drewN | apply below_drew1 | refine below_set ?_ GE911.out | refine below_set ?_ GE920.out | refine below_set ?_ GE924.out | refine below_set ?_ GE929.out) | exact HB.out)))); have n5_ := Aside0.mk (blk_below (g := gb911) (o := .cells #[.slice A0_0 l0_0.length c0_0] 36 (0, 0)) (by (with_reducible repeat (first | refine blk_drewN ?_ _ | refine blk_drew ?_ | refine blk_alloc ?_ _)); exact BK911.out) hb); have n6_ := Aside0.mk (blk_below (g := gb920) (o := .cells #[.slice Ao21 t916.length co21] 26 (0, 0)) (by (with_reducible repeat (first | refine blk_drewN ?_ _ | refine blk_drew ?_ | refine blk_alloc ?_ _)); exact BK920.out) hb); have n7_ := Aside0.mk (blk_below (g := gb924) (o := .cells #[.slice Ao27 t936.length co27] 26 (0, 0)) (by (with_reducible repeat (first | refine blk_drewN ?_ _ | refine blk_drew ?_ | refine blk_alloc ?_ _)); exact BK924.out) hb); have n8_ := Aside0.mk (blk_below (g := gb929) (o := .cells #[.slice Ao33 t925.length co33] 26 (0, 0)) (by (with_reducible repeat (first | refine blk_drewN ?_ _ | refine blk_drew ?_ | refine blk_alloc ?_ _)); exact BK929.out) hb); have n9_ := Aside0.mk (below_step (by repeat (first | (with_reducible first | exact HB.out | apply below_alloc | apply pw_below_drewN | apply below_drew1 | refine below_set ?_ GE911.out | refine below_set ?_ GE920.out | refine below_set ?_ GE924.out | refine below_set ?_ GE929.out) | exact HB.out)) hb); clear HO_921000; clear HO_925000; clear HO_930000; clear HO943; clear BK911; clear BK920; clear BK924; clear BK929; clear HB; have HO_921000 := n0_; have HO_925000 := n1_; have HO_930000 := n2_; have HO943 := n3_; have HO946 := n4_; have BK911 := n5_; have BK920 := n6_; have BK924 := n7_; have BK929 := n8_; have HB := n9_; clear n0_ n1_ n2_ n3_ n4_ n5_ n6_ n7_ n8_ n9_; (try clear hb); (try clear hb2); (try clear hk); (try clear hi); (try clear ho0)) | ((with_reducible refine gate_dst (N := 14) rfl ?_); refine box_event ?hg (N := 14) ?hd (cs := #[.slice none 0 0]) (t := 26) ?hr ?_; (case hd => rfl); (case hg => rfl); (case hr => first | (go_simp; done) | (go_simp; rfl)); intro gb948 hg w118 hbox hb; have n0_ := Aside0.mk (Kd.R_below (by (with_reducible repeat (first | apply Kd.R_alloc | apply Kd.R_drewN | apply Kd.R_drew)); exact HO_921000.out) hb); have n1_ := Aside0.mk (Kd.R_below (by (with_reducible repeat (first | apply Kd.R_alloc | apply Kd.R_drewN | apply Kd.R_drew)); exact HO_925000.out) hb); have n2_ := Aside0.mk (Kd.R_below (by (with_reducible repeat (first | apply Kd.R_alloc | apply Kd.R_drewN | apply Kd.R_drew)); exact HO_930000.out) hb); have n3_ := Aside0.mk (Kd.R_below (by (with_reducible repeat (first | apply Kd.R_alloc | apply Kd.R_drewN | apply Kd.R_drew)); exact HO943.out) hb); have n4_ := Aside0.mk (Kd.R_below (by (with_reducible repeat (first | apply Kd.R_alloc | apply Kd.R_drewN | apply Kd.R_drew)); exact HO946.out) hb); have n5_ := Aside0.mk (blk_below (g := gb911) (o := .cells #[.slice A0_0 l0_0.length c0_0] 36 (0, 0)) (by (with_reducible repeat (first | refine blk_drewN ?_ _ | refine blk_drew ?_ | refine blk_alloc ?_ _)); exact BK911.out) hb); have n6_ := Aside0.mk (blk_below (g := gb920) (o := .cells #[.slice Ao21 t916.length co21] 26 (0, 0)) (by (with_reducible repeat (first | refine blk_drewN ?_ _ | refine blk_drew ?_ | refine blk_alloc ?_ _)); exact BK920.out) hb); have n7_ := Aside0.mk (blk_below (g := gb924) (o := .cells #[.slice Ao27 t936.length co27] 26 (0, 0)) (by (with_reducible repeat (first | refine blk_drewN ?_ _ | refine blk_drew ?_ | refine blk_alloc ?_ _)); exact BK924.out) hb); have n8_ := Aside0.mk (blk_below (g := gb929) (o := .cells #[.slice Ao33 t925.length co33] 26 (0, 0)) (by (with_reducible repeat (first | refine blk_drewN ?_ _ | refine blk_drew ?_ | refine blk_alloc ?_ _)); exact BK929.out) hb); have n9_ := Aside0.mk (below_step (by repeat (first | (with_reducible first | exact HB.out | apply below_alloc | apply pw_below_drewN | apply below_drew1 | refine below_set ?_ GE911.out | refine below_set ?_ GE920.out | refine below_set ?_ GE924.out | refine below_set ?_ GE929.out) | exact HB.out)) hb); have n10_ := Aside0.mk (hbox); have n11_ := Aside0.mk ((by rw [hg]; exact (below_size (by repeat (first | (with_reducible first | exact HB.out | apply below_alloc | apply pw_below_drewN | apply below_drew1 | refine below_set ?_ GE911.out | refine below_set ?_ GE920.out | refine below_set ?_ GE924.out | refine below_set ?_ GE929.out) | exact HB.out))) : w.heap.size ≤ gb948)); have n12_ := Aside0.mk ((by rw [hg]; exact (below_size (by repeat (first | (with_reducible first | exact HB.out | apply below_alloc | apply pw_below_drewN | apply below_drew1 | refine below_set ?_ GE911.out | refine below_set ?_ GE920.out | refine below_set ?_ GE924.out | refine below_set ?_ GE929.out) | exact HB.out))) : w.heap.size ≤ gb948)); have n13_ := Aside0.mk ((by rw [hg]; exact Nat.ne_of_lt (blk_lt (g := gb911) (o := .cells #[.slice A0_0 l0_0.length c0_0] 36 (0, 0)) (by (with_reducible repeat (first | refine blk_drewN ?_ _ | refine blk_drew ?_ | refine blk_alloc ?_ _)); exact BK911.out)) : gb911 ≠ gb948)); have n14_ := Aside0.mk ((by rw [hg]; exact Nat.ne_of_gt (blk_lt (g := gb911) (o := .cells #[.slice A0_0 l0_0.length c0_0] 36 (0, 0)) (by (with_reducible repeat (first | refine blk_drewN ?_ _ | refine blk_drew ?_ | refine blk_alloc ?_ _)); exact BK911.out)) : gb948 ≠ gb911)); have n15_ := Aside0.mk ((by rw [hg]; exact Nat.ne_of_lt (blk_lt (g := gb920) (o := .cells #[.slice Ao21 t916.length co21] 26 (0, 0)) (by (with_reducible repeat (first | refine blk_drewN ?_ _ | refine blk_drew ?_ | refine blk_alloc ?_ _)); exact BK920.out)) : gb920 ≠ gb948)); have n16_ := Aside0.mk ((by rw [hg]; exact Nat.ne_of_gt (blk_lt (g := gb920) (o := .cells #[.slice Ao21 t916.length co21] 26 (0, 0)) (by (with_reducible repeat (first | refine blk_drewN ?_ _ | refine blk_drew ?_ | refine blk_alloc ?_ _)); exact BK920.out)) : gb948 ≠ gb920)); have n17_ := Aside0.mk ((by rw [hg]; exact Nat.ne_of_lt (blk_lt (g := gb924) (o := .cells #[.slice Ao27 t936.length co27] 26 (0, 0)) (by (with_reducible repeat (first | refine blk_drewN ?_ _ | refine blk_drew ?_ | refine blk_alloc ?_ _)); exact BK924.out)) : gb924 ≠ gb948)); have n18_ := Aside0.mk ((by rw [hg]; exact Nat.ne_of_gt (blk_lt (g := gb924) (o := .cells #[.slice Ao27 t936.length co27] 26 (0, 0)) (by (with_reducible repeat (first | refine blk_drewN ?_ _ | refine blk_drew ?_ | refine blk_alloc ?_ _)); exact BK924.out)) : gb948 ≠ gb924)); have n19_ := Aside0.mk ((by rw [hg]; exact Nat.ne_of_lt (blk_lt (g := gb929) (o := .cells #[.slice Ao33 t925.length co33] 26 (0, 0)) (by (with_reducible repeat (first | refine blk_drewN ?_ _ | refine blk_drew ?_ | refine blk_alloc ?_ _)); exact BK929.out)) : gb929 ≠ gb948)); have n20_ := Aside0.mk ((by rw [hg]; exact Nat.ne_of_gt (blk_lt (g := gb929) (o := .cells #[.slice Ao33 t925.length co33] 26 (0, 0)) (by (with_reducible repeat (first | refine blk_drewN ?_ _ | refine blk_drew ?_ | refine blk_alloc ?_ _)); exact BK929.out)) : gb948 ≠ gb929)); clear HO_921000; clear HO_925000; clear HO_930000; clear HO943; clear HO946; clear BK911; clear BK920; clear BK924; clear BK929; clear HB; have HO_921000 := n0_; have HO_925000 := n1_; have HO_930000 := n2_; have HO943 := n3_; have HO946 := n4_; have BK911 := n5_; have BK920 := n6_; have BK924 := n7_; have BK929 := n8_; have HB := n9_; have BK948 := n10_; have GW948 := n11_; have GE948 := n12_; have NB911_948 := n13_; have NB948_911 := n14_; have NB920_948 := n15_; have NB948_920 := n16_; have NB924_948 := n17_; have NB948_924 := n18_; have NB929_948 := n19_; have NB948_929 := n20_; clear n0_ n1_ n2_ n3_ n4_ n5_ n6_ n7_ n8_ n9_ n10_ n11_ n12_ n13_ n14_ n15_ n16_ n17_ n18_ n19_ n20_; clear hb hbox hg; obtain ⟨Ao119, co119, eo119⟩ := Kd.R_slice HO946.out; subst eo119; have hnb120 := NB948_911.out; have hnc120 := NB911_948.out; have hnb121 := NB948_920.out; have hnc121 := NB920_948.out; have hnb122 := NB948_924.out; have hnc122 := NB924_948.out; have hnb123 := NB948_929.out; have hnc123 := NB929_948.out; have hcz124_0 : w118.cell? ⟨gb948, 0, none⟩ = some (.slice none 0 0) := (blk_cell BK948.out 0).trans rfl; have hfz124_0 := blk_frozen BK948.out 0))
                      (try simp only [Act.put, List.setIfInBounds_toArray, List.set_cons_zero, List.set_cons_succ])
                      go_cut [92] (fun v92 wc => ∃ (kq : Nat) (x92_103 : Bool), v92 = .bool x92_103 ∧ Aside0 (laws_FnExactShiftTrie.j2 kq t938 x92_103 t939 = some true) ∧ Aside0 (kq ≤ kj60) ∧ Aside0 (Kd.R k76 76 wc w.heap.size (fun k_ => some k_ ≠ ((.slice Ao27 t936.length co27) : Value).ownBlock ∧ some k_ ≠ ((.slice Ao33 t925.length co33) : Value).ownBlock ∧ some k_ ≠ ((.slice Ao119 t944.length co119) : Value).ownBlock) (.slice Ao21 t916.length co21) t916) ∧ Aside0 (Kd.R k76 76 wc w.heap.size (fun k_ => some k_ ≠ ((.slice Ao21 t916.length co21) : Value).ownBlock ∧ some k_ ≠ ((.slice Ao33 t925.length co33) : Value).ownBlock ∧ some k_ ≠ ((.slice Ao119 t944.length co119) : Value).ownBlock) (.slice Ao27 t936.length co27) t936) ∧ Aside0 (Kd.R k76 76 wc w.heap.size (fun k_ => some k_ ≠ ((.slice Ao21 t916.length co21) : Value).ownBlock ∧ some k_ ≠ ((.slice Ao27 t936.length co27) : Value).ownBlock ∧ some k_ ≠ ((.slice Ao119 t944.length co119) : Value).ownBlock) (.slice Ao33 t925.length co33) t939) ∧ Aside0 (Kd.R k76 76 wc w.heap.size (fun k_ => some k_ ≠ ((.slice Ao21 t916.length co21) : Value).ownBlock ∧ some k_ ≠ ((.slice Ao27 t936.length co27) : Value).ownBlock ∧ some k_ ≠ ((.slice Ao33 t925.length co33) : Value).ownBlock) (.slice Ao119 t944.length co119) t944) ∧ Aside0 (wc.heap[gb911]? = some (.cells #[(.slice A0_0 l0_0.length c0_0)] 36 (0, 0))) ∧ Aside0 (wc.heap[gb920]? = some (.cells #[(.slice Ao21 t916.length co21)] 26 (0, 0))) ∧ Aside0 (wc.heap[gb924]? = some (.cells #[(.slice Ao27 t936.length co27)] 26 (0, 0))) ∧ Aside0 (wc.heap[gb929]? = some (.cells #[(.slice Ao33 t925.length co33)] 26 (0, 0))) ∧ Aside0 (wc.heap[gb948]? = some (.cells #[(.slice Ao119 t944.length co119)] 26 (0, 0))) ∧ Aside0 (Below w.heap.size w wc))
                      case first =>
                        have H := HC104.out
                        clear HC104
                        replace H := Option.bind_eq_some_iff.mp H
                        obtain ⟨t949, A1250, H⟩ := H
                        replace H : (if t949 = true then (laws_FnExactShiftTrie.j2 kj60 t938 (t947 != t919) t939) else (laws_FnExactShiftTrie.j2 kj60 t938 true t939)) = some true := H
                        have A125 := Aside0.mk A1250
                        clear A1250
                        by_cases c126 : t949 = true
                        · subst c126
                          have H1 : (laws_FnExactShiftTrie.j2 kj60 t938 (t947 != t919) t939) = some true := by rw [if_pos rfl] at H; exact H
                          clear H
                          have H := H1
                          clear H1
                          have H' := Aside0.mk H
                          clear H
                          have hnb127 := NB948_911.out
                          have hnc127 := NB911_948.out
                          have hnb128 := NB948_920.out
                          have hnc128 := NB920_948.out
                          have hnb129 := NB948_924.out
                          have hnc129 := NB924_948.out
                          have hnb130 := NB948_929.out
                          have hnc130 := NB929_948.out
                          have hcz131_0 : w118.cell? ⟨gb948, 0, none⟩ = some (.slice none 0 0) := (blk_cell BK948.out 0).trans rfl
                          have hfz131_0 := blk_frozen BK948.out 0
                          have hnb132 := NB920_911.out
                          have hnc132 := NB911_920.out
                          have hnb133 := NB920_924.out
                          have hnc133 := NB924_920.out
                          have hnb134 := NB920_929.out
                          have hnc134 := NB929_920.out
                          have hcz135_0 : w118.cell? ⟨gb920, 0, none⟩ = some (.slice Ao21 t916.length co21) := (blk_cell BK920.out 0).trans rfl
                          have hfz135_0 := blk_frozen BK920.out 0
                          go_wp2_with (first | ((with_reducible refine gate_callee (f := 16) rfl ?_); refine goesL_ (some 86) rfl rfl Tryd.func16 (by kernel_rfl) rfl #[.agg #[.slice Ao119 t944.length co119], .agg #[.slice Ao21 t916.length co21]] rfl (by (try simp only [List.map_toArray, List.map_cons, List.map_nil]); first | done | rfl | (simp only [List.length_drop, List.length_take]; rfl)) ?_; (with_reducible refine (laws_eqTrie.calls kj60 _ _ t944 _ _ t916 true _ ?side1 ?side2 ?side3 ?side4 A125.out).mono ?_); (case side1 => refine (Kd.R_reads' (e := 76) (base := w.heap.size) (ok := fun k_ => ((((True ∧ some k_ ≠ (.slice Ao21 t916.length co21 : Value).ownBlock) ∧ some k_ ≠ (.slice Ao27 t936.length co27 : Value).ownBlock) ∧ some k_ ≠ (.slice Ao33 t925.length co33 : Value).ownBlock) ∧ some k_ ≠ (.slice Ao116 t941.length co116 : Value).ownBlock)) (n := t944.length) (c := co119) ?_).2.2; exact (by (with_reducible repeat (first | apply Kd.R_alloc | apply Kd.R_drewN | apply Kd.R_drew)); exact (Kd.R_mono (R_same_ (Kd.R_far (p := ⟨gb948, 0, none⟩) (Kd.R_types HO946.out BK948.out (by decide)) (fun _ hk => hk.2) (.slice Ao119 t944.length co119)) rfl) (fun _ h_ => h_.1)))); (case side2 => exact (Kd.R_reads' HO946.out).2.1); (case side3 => refine (Kd.R_reads' (e := 76) (base := w.heap.size) (ok := fun k_ => (((some k_ ≠ (.slice Ao27 t936.length co27 : Value).ownBlock ∧ some k_ ≠ (.slice Ao33 t925.length co33 : Value).ownBlock) ∧ some k_ ≠ (.slice Ao116 t941.length co116 : Value).ownBlock) ∧ some k_ ≠ (.slice Ao119 t944.length co119 : Value).ownBlock)) (n := t916.length) (c := co21) ?_).2.2; exact (by (with_reducible repeat (first | apply Kd.R_alloc | apply Kd.R_drewN | apply Kd.R_drew)); exact (Kd.R_mono (R_same_ (Kd.R_far (p := ⟨gb948, 0, none⟩) (Kd.R_types HO_921000.out BK948.out (by decide)) (fun _ hk => hk.2) (.slice Ao119 t944.length co119)) rfl) (fun _ h_ => h_.1)))); (case side4 => exact (Kd.R_reads' HO_921000.out).2.1); rintro e w136 ⟨rfl, hb⟩; refine ⟨_, rfl, ?_⟩; have n0_ := Aside0.mk (Kd.R_below (by (with_reducible repeat (first | apply Kd.R_alloc | apply Kd.R_drewN | apply Kd.R_drew)); exact (Kd.R_mono (R_same_ (Kd.R_far (p := ⟨gb948, 0, none⟩) (Kd.R_types HO_921000.out BK948.out (by decide)) (fun _ hk => hk.2) (.slice Ao119 t944.length co119)) rfl) (fun _ h_ => h_.1))) hb); have n1_ := Aside0.mk (Kd.R_below (by (with_reducible repeat (first | apply Kd.R_alloc | apply Kd.R_drewN | apply Kd.R_drew)); exact (Kd.R_mono (R_same_ (Kd.R_far (p := ⟨gb948, 0, none⟩) (Kd.R_types HO_925000.out BK948.out (by decide)) (fun _ hk => hk.2) (.slice Ao119 t944.length co119)) rfl) (fun _ h_ => h_.1))) hb); have n2_ := Aside0.mk (Kd.R_below (by (with_reducible repeat (first | apply Kd.R_alloc | apply Kd.R_drewN | apply Kd.R_drew)); exact (Kd.R_mono (R_same_ (Kd.R_far (p := ⟨gb948, 0, none⟩) (Kd.R_types HO_930000.out BK948.out (by decide)) (fun _ hk => hk.2) (.slice Ao119 t944.length co119)) rfl) (fun _ h_ => h_.1))) hb); have n3_ := Aside0.mk (Kd.R_below (by (with_reducible repeat (first | apply Kd.R_alloc | apply Kd.R_drewN | apply Kd.R_drew)); exact (Kd.R_mono (R_same_ (Kd.R_far (p := ⟨gb948, 0, none⟩) (Kd.R_types HO943.out BK948.out (by decide)) (fun _ hk => hk.2) (.slice Ao119 t944.length co119)) rfl) (fun _ h_ => h_.1))) hb); have n4_ := Aside0.mk (Kd.R_below (by (with_reducible repeat (first | apply Kd.R_alloc | apply Kd.R_drewN | apply Kd.R_drew)); exact (Kd.R_mono (R_same_ (Kd.R_far (p := ⟨gb948, 0, none⟩) (Kd.R_types HO946.out BK948.out (by decide)) (fun _ hk => hk.2) (.slice Ao119 t944.length co119)) rfl) (fun _ h_ => h_.1))) hb); have n5_ := Aside0.mk (blk_below (g := gb911) (o := .cells #[.slice A0_0 l0_0.length c0_0] 36 (0, 0)) (by (with_reducible repeat (first | refine blk_drewN ?_ _ | refine blk_drew ?_ | refine blk_alloc ?_ _)); refine blk_far ?_ NB911_948.out _; (with_reducible repeat (first | refine blk_drewN ?_ _ | refine blk_drew ?_ | refine blk_alloc ?_ _)); exact BK911.out) hb); have n6_ := Aside0.mk (blk_below (g := gb920) (o := .cells #[.slice Ao21 t916.length co21] 26 (0, 0)) (by (with_reducible repeat (first | refine blk_drewN ?_ _ | refine blk_drew ?_ | refine blk_alloc ?_ _)); refine blk_far ?_ NB920_948.out _; (with_reducible repeat (first | refine blk_drewN ?_ _ | refine blk_drew ?_ | refine blk_alloc ?_ _)); exact BK920.out) hb); have n7_ := Aside0.mk (blk_below (g := gb924) (o := .cells #[.slice Ao27 t936.length co27] 26 (0, 0)) (by (with_reducible repeat (first | refine blk_drewN ?_ _ | refine blk_drew ?_ | refine blk_alloc ?_ _)); refine blk_far ?_ NB924_948.out _; (with_reducible repeat (first | refine blk_drewN ?_ _ | refine blk_drew ?_ | refine blk_alloc ?_ _)); exact BK924.out) hb); have n8_ := Aside0.mk (blk_below (g := gb929) (o := .cells #[.slice Ao33 t925.length co33] 26 (0, 0)) (by (with_reducible repeat (first | refine blk_drewN ?_ _ | refine blk_drew ?_ | refine blk_alloc ?_ _)); refine blk_far ?_ NB929_948.out _; (with_reducible repeat (first | refine blk_drewN ?_ _ | refine blk_drew ?_ | refine blk_alloc ?_ _)); exact BK929.out) hb); have n9_ := Aside0.mk (blk_below (g := gb948) (o := .cells #[.slice Ao119 t944.length co119] 26 (0, 0)) (by (with_reducible repeat (first | refine blk_drewN ?_ _ | refine blk_drew ?_ | refine blk_alloc ?_ _)); refine blk_put (cs := #[.slice none 0 0]) ?_ 0 _ rfl; (with_reducible repeat (first | refine blk_drewN ?_ _ | refine blk_drew ?_ | refine blk_alloc ?_ _)); exact BK948.out) hb); have n10_ := Aside0.mk (below_step (by repeat (first | (with_reducible first | exact HB.out | apply below_alloc | apply pw_below_drewN | apply below_drew1 | refine below_set ?_ GE911.out | refine below_set ?_ GE920.out | refine below_set ?_ GE924.out | refine below_set ?_ GE929.out | refine below_set ?_ GE948.out) | exact HB.out)) hb); clear HO_921000; clear HO_925000; clear HO_930000; clear HO943; clear HO946; clear BK911; clear BK920; clear BK924; clear BK929; clear BK948; clear HB; have HO_921000 := n0_; have HO_925000 := n1_; have HO_930000 := n2_; have HO943 := n3_; have HO946 := n4_; have BK911 := n5_; have BK920 := n6_; have BK924 := n7_; have BK929 := n8_; have BK948 := n9_; have HB := n10_; clear n0_ n1_ n2_ n3_ n4_ n5_ n6_ n7_ n8_ n9_ n10_; (try clear hb); (try clear hb2); (try clear hk); (try clear hi)))
                          go_meet
                          case rel => exact ⟨_, ((t947 != t919)), (by first | rfl | (simp; done) | (simp [*]; done)), H', ⟨by have := HJ11.out; have := HJ60.out; first | omega | exact Nat.le_refl _⟩, ⟨by (try simp only [hl925000_60]); (with_reducible repeat (first | apply Kd.R_alloc | apply Kd.R_drewN | apply Kd.R_drew)); exact Kd.R_mono HO_921000.out (fun _ hk => ⟨hk.1.1.1, ⟨hk.1.1.2, hk.2⟩⟩)⟩, ⟨by (try simp only [hl925000_60]); (with_reducible repeat (first | apply Kd.R_alloc | apply Kd.R_drewN | apply Kd.R_drew)); exact Kd.R_mono HO_925000.out (fun _ hk => ⟨hk.1.1.1, ⟨hk.1.1.2, hk.2⟩⟩)⟩, ⟨by (try simp only [hl925000_60]); (with_reducible repeat (first | apply Kd.R_alloc | apply Kd.R_drewN | apply Kd.R_drew)); exact Kd.R_mono HO_930000.out (fun _ hk => ⟨hk.1.1.1, ⟨hk.1.1.2, hk.2⟩⟩)⟩, ⟨by (try simp only [hl925000_60]); (with_reducible repeat (first | apply Kd.R_alloc | apply Kd.R_drewN | apply Kd.R_drew)); exact Kd.R_mono HO946.out (fun _ hk => ⟨hk.1.1.1.2, ⟨hk.1.1.2, hk.1.2⟩⟩)⟩, ⟨by (try simp only [hl925000_60]); (with_reducible repeat (first | refine blk_drewN ?_ _ | refine blk_drew ?_ | refine blk_alloc ?_ _)); exact BK911.out⟩, ⟨by (try simp only [hl925000_60]); (with_reducible repeat (first | refine blk_drewN ?_ _ | refine blk_drew ?_ | refine blk_alloc ?_ _)); exact BK920.out⟩, ⟨by (try simp only [hl925000_60]); (with_reducible repeat (first | refine blk_drewN ?_ _ | refine blk_drew ?_ | refine blk_alloc ?_ _)); exact BK924.out⟩, ⟨by (try simp only [hl925000_60]); (with_reducible repeat (first | refine blk_drewN ?_ _ | refine blk_drew ?_ | refine blk_alloc ?_ _)); exact BK929.out⟩, ⟨by (try simp only [hl925000_60]); (with_reducible repeat (first | refine blk_drewN ?_ _ | refine blk_drew ?_ | refine blk_alloc ?_ _)); exact BK948.out⟩, ⟨by repeat (first | (with_reducible first | exact HB.out | apply below_alloc | apply pw_below_drewN | apply below_drew1 | refine below_set ?_ GE911.out | refine below_set ?_ GE920.out | refine below_set ?_ GE924.out | refine below_set ?_ GE929.out | refine below_set ?_ GE948.out) | exact HB.out)⟩⟩
                        · replace c126 := Bool.eq_false_iff.mpr c126
                          subst c126
                          have H1 : (laws_FnExactShiftTrie.j2 kj60 t938 true t939) = some true := by rw [if_neg (show ¬ (false = true) by decide)] at H; exact H
                          exact absurd H1 (by cases kj60 <;> simp [laws_FnExactShiftTrie.j2])
                      case rest =>
                        clear HC104
                        try clear c1
                        try clear c2
                        try clear p2
                        try clear c3
                        try clear c4
                        try clear c4b0
                        try clear c5
                        try clear c6
                        try clear c7
                        try clear c8
                        try clear c9
                        try clear c10
                        try clear c11
                        try clear c12
                        try clear c13
                        try clear c14
                        try clear c16
                        try clear c19
                        try clear c20
                        try clear c21
                        try clear c22
                        try clear c23
                        try clear c28
                        try clear c29
                        try clear c34
                        try clear c35
                        try clear c36
                        try clear c37
                        try clear c38
                        try clear c39
                        try clear c40
                        try clear c41
                        try clear c42
                        try clear c44
                        try clear c45
                        try clear c48
                        try clear c49
                        try clear c50
                        try clear c52
                        try clear c53
                        try clear c56
                        try clear c59
                        try clear c66
                        try clear c67
                        try clear c68
                        try clear c71
                        try clear c71b0
                        try clear c73
                        try clear c74
                        try clear c75
                        try clear c76
                        try clear c78
                        try clear c79
                        try clear c82
                        try clear c83
                        try clear c84
                        try clear c86
                        try clear c87
                        try clear c90
                        try clear c93
                        try clear c93b0
                        try clear c94
                        try clear c95
                        try clear c96
                        try clear c101
                        try clear c101b0
                        try clear c101b1
                        try clear c105
                        try clear c106
                        try clear c107
                        try clear c112
                        try clear c113
                        try clear c120
                        try clear c121
                        try clear c122
                        try clear c123
                        try clear c126
                        try clear c127
                        try clear c128
                        try clear c129
                        try clear c130
                        try clear c132
                        try clear c133
                        try clear c134
                        try clear c137
                        try clear c138
                        try clear c139
                        try clear c140
                        try clear c142
                        try clear c143
                        try clear c144
                        try clear hcz108_0
                        try clear hcz110_0
                        try clear hcz114_0
                        try clear hcz124_0
                        try clear hcz131_0
                        try clear hcz135_0
                        try clear hcz141_0
                        try clear hcz145_0
                        try clear hcz14_0
                        try clear hcz16_0
                        try clear hcz23_0
                        try clear hcz24_0
                        try clear hcz30_0
                        try clear hcz37_0
                        try clear hcz43_0
                        try clear hcz46_0
                        try clear hcz51_0
                        try clear hcz54_0
                        try clear hcz69_0
                        try clear hcz6_0
                        try clear hcz77_0
                        try clear hcz80_0
                        try clear hcz85_0
                        try clear hcz88_0
                        try clear hcz97_0
                        try clear hcz99_0
                        try clear hfz108_0
                        try clear hfz110_0
                        try clear hfz114_0
                        try clear hfz124_0
                        try clear hfz131_0
                        try clear hfz135_0
                        try clear hfz141_0
                        try clear hfz145_0
                        try clear hfz14_0
                        try clear hfz16_0
                        try clear hfz23_0
                        try clear hfz24_0
                        try clear hfz30_0
                        try clear hfz37_0
                        try clear hfz43_0
                        try clear hfz46_0
                        try clear hfz51_0
                        try clear hfz54_0
                        try clear hfz69_0
                        try clear hfz6_0
                        try clear hfz77_0
                        try clear hfz80_0
                        try clear hfz85_0
                        try clear hfz88_0
                        try clear hfz97_0
                        try clear hfz99_0
                        try clear p2
                        obtain ⟨kq, x92_103, rfl, HA, HJ103, HO_921000, HO_925000, HO_930000, HO_949000, BK911, BK920, BK924, BK929, BK948, HB⟩ := hcut
                        have hl930000_103 := (Kd.R_reads' HO_930000.out).1
                        rw [hl930000_103] at HO_930000
                        (try simp only [hl930000_103])
                        (try simp only [hl930000_103] at BK911)
                        (try simp only [hl930000_103] at BK920)
                        (try simp only [hl930000_103] at BK924)
                        (try simp only [hl930000_103] at BK929)
                        (try simp only [hl930000_103] at BK948)
                        (try simp only [hl930000_103] at HO_921000)
                        (try simp only [hl930000_103] at HO_925000)
                        (try simp only [hl930000_103] at HO_949000)
                        cases kq with
                        | zero => exact absurd HA.out (by simp [laws_FnExactShiftTrie.j2])
                        | succ kj103 =>
                          have H := HA.out
                          clear HA
                          simp only [laws_FnExactShiftTrie.j2] at H
                          by_cases c147 : x92_103 = true
                          · subst c147
                            have H1 : (some false) = some true := by rw [if_pos rfl] at H; exact H
                            exact absurd H1 (by simp)
                          · replace c147 := Bool.eq_false_iff.mpr c147
                            subst c147
                            have H1 : ((laws_heldTrie.f kj103 t939 1).bind fun t950 => (if t950 < 0 then (some false) else (if t950 = t938 then (some true) else (some false)))) = some true := by rw [if_neg (show ¬ (false = true) by decide)] at H; exact H
                            clear H
                            have H := H1
                            clear H1
                            replace H := Option.bind_eq_some_iff.mp H
                            obtain ⟨t950, A1480, H⟩ := H
                            replace H : (if t950 < 0 then (some false) else (if t950 = t938 then (some true) else (some false))) = some true := H
                            have A148 := Aside0.mk A1480
                            clear A1480
                            by_cases c149 : t950 < 0
                            · rw [if_pos c149] at H
                              exact absurd H (by simp)
                            · rw [if_neg c149] at H
                              have c149b0 : decide (t950 < 0) = false := decide_eq_false c149
                              clear c149
                              by_cases c156 : t950 = t938
                              · rw [if_pos c156] at H
                                have c156b0 : (t950 == t938) = true := beq_iff_eq.mpr c156
                                have c156b1 : (t950 != t938) = false := bne_eq_false_iff_eq.mpr c156
                                clear c156
                                (first | (obtain rfl := Option.some.inj H) | (have hH_ := Option.some.inj H; try simp only [hH_]))
                                have hnb157 := NB929_911.out
                                have hnc157 := NB911_929.out
                                have hnb158 := NB929_920.out
                                have hnc158 := NB920_929.out
                                have hnb159 := NB929_924.out
                                have hnc159 := NB924_929.out
                                have hnb160 := NB929_948.out
                                have hnc160 := NB948_929.out
                                have hcz161_0 : wc.cell? ⟨gb929, 0, none⟩ = some (.slice Ao33 t939.length co33) := (blk_cell BK929.out 0).trans rfl
                                have hfz161_0 := blk_frozen BK929.out 0
                                go_wp2_with (first | ((with_reducible refine gate_callee (f := 20) rfl ?_); refine goesL_ (some 95) rfl rfl Tryd.func20 (by kernel_rfl) rfl #[.agg #[.slice Ao33 t939.length co33], .int .i64 1] rfl (by (try simp only [List.map_toArray, List.map_cons, List.map_nil]); first | done | rfl | (simp only [List.length_drop, List.length_take]; rfl)) ?_; (with_reducible refine (laws_heldTrie.calls kj103 _ _ t939 1 t950 _ ?side1 ?side2 A148.out).mono ?_); (case side1 => repeat (first | exact (Kd.R_reads' HO_930000.out).2.2 | (with_reducible refine Kd.C_alloc ?_ _) | (with_reducible refine Kd.C_drewN ?_ _) | (with_reducible refine Kd.C_drew ?_))); (case side2 => exact (Kd.R_reads' HO_930000.out).2.1); rintro e w162 ⟨rfl, hb⟩; refine ⟨_, rfl, ?_⟩; have n0_ := Aside0.mk (Kd.R_below (by (with_reducible repeat (first | apply Kd.R_alloc | apply Kd.R_drewN | apply Kd.R_drew)); exact HO_921000.out) hb); have n1_ := Aside0.mk (Kd.R_below (by (with_reducible repeat (first | apply Kd.R_alloc | apply Kd.R_drewN | apply Kd.R_drew)); exact HO_925000.out) hb); have n2_ := Aside0.mk (Kd.R_below (by (with_reducible repeat (first | apply Kd.R_alloc | apply Kd.R_drewN | apply Kd.R_drew)); exact HO_930000.out) hb); have n3_ := Aside0.mk (Kd.R_below (by (with_reducible repeat (first | apply Kd.R_alloc | apply Kd.R_drewN | apply Kd.R_drew)); exact HO_949000.out) hb); have n4_ := Aside0.mk (blk_below (g := gb911) (o := .cells #[.slice A0_0 l0_0.length c0_0] 36 (0, 0)) (by (with_reducible repeat (first | refine blk_drewN ?_ _ | refine blk_drew ?_ | refine blk_alloc ?_ _)); exact BK911.out) hb); have n5_ := Aside0.mk (blk_below (g := gb920) (o := .cells #[.slice Ao21 t916.length co21] 26 (0, 0)) (by (with_reducible repeat (first | refine blk_drewN ?_ _ | refine blk_drew ?_ | refine blk_alloc ?_ _)); exact BK920.out) hb); have n6_ := Aside0.mk (blk_below (g := gb924) (o := .cells #[.slice Ao27 t936.length co27] 26 (0, 0)) (by (with_reducible repeat (first | refine blk_drewN ?_ _ | refine blk_drew ?_ | refine blk_alloc ?_ _)); exact BK924.out) hb); have n7_ := Aside0.mk (blk_below (g := gb929) (o := .cells #[.slice Ao33 t939.length co33] 26 (0, 0)) (by (with_reducible repeat (first | refine blk_drewN ?_ _ | refine blk_drew ?_ | refine blk_alloc ?_ _)); exact BK929.out) hb); have n8_ := Aside0.mk (blk_below (g := gb948) (o := .cells #[.slice Ao119 t944.length co119] 26 (0, 0)) (by (with_reducible repeat (first | refine blk_drewN ?_ _ | refine blk_drew ?_ | refine blk_alloc ?_ _)); exact BK948.out) hb); have n9_ := Aside0.mk (below_step (by repeat (first | (with_reducible first | exact HB.out | apply below_alloc | apply pw_below_drewN | apply below_drew1 | refine below_set ?_ GE911.out | refine below_set ?_ GE920.out | refine below_set ?_ GE924.out | refine below_set ?_ GE929.out | refine below_set ?_ GE948.out) | exact HB.out)) hb); clear HO_921000; clear HO_925000; clear HO_930000; clear HO_949000; clear BK911; clear BK920; clear BK924; clear BK929; clear BK948; clear HB; have HO_921000 := n0_; have HO_925000 := n1_; have HO_930000 := n2_; have HO_949000 := n3_; have BK911 := n4_; have BK920 := n5_; have BK924 := n6_; have BK929 := n7_; have BK948 := n8_; have HB := n9_; clear n0_ n1_ n2_ n3_ n4_ n5_ n6_ n7_ n8_ n9_; (try clear hb); (try clear hb2); (try clear hk); (try clear hi)))
                                go_ret
                                exact ⟨by first | rfl | (simp [errW_none, errW_some] <;> rfl) | (simp [*, errW_none, errW_some] <;> rfl), by repeat (first | (with_reducible first | exact HB.out | apply below_alloc | apply pw_below_drewN | apply below_drew1 | refine below_set ?_ GE911.out | refine below_set ?_ GE920.out | refine below_set ?_ GE924.out | refine below_set ?_ GE929.out | refine below_set ?_ GE948.out) | exact HB.out)⟩
                              · rw [if_neg c156] at H
                                exact absurd H (by simp)
                    · rw [if_neg c101] at H
                      exact absurd H (by simp)
          · replace c59 := Bool.eq_false_iff.mpr c59
            subst c59
            have H1 : (some false) = some true := by rw [if_neg (show ¬ (false = true) by decide)] at H; exact H
            exact absurd H1 (by simp)
end Go.Proofs.YtefcbnlljpdjnaaDoor.Q
namespace Go.Proofs.YtefcbnlljpdjnaaDoor.Q
open Go.RowKit Go.Proofs.YtefcbnlljpdjnaaDoorW.PrintWords Go.Proofs.YtefcbnlljpdjnaaDoorW.PrintLast
theorem shift_l1 (k0 : Int) (ws : List ByteArray) (hl : ws.length ≤ 40) (hz : ∀ x ∈ ws, x.size ≤ 12) (i : Nat) (hi : i < ws.length) (acc : List ByteArray) (ha : acc.length ≤ i) (r : List IN × Bool)
    (hn : Ev (fun k => spec_ShiftTrie.l0 k k0 (acc ++ [shiftB k0 ws[i]]) ws ((i + 1 : Nat) : Int)) r) : ∀ (n j : Nat), j + n = ws[i].size → Ev (fun k => spec_ShiftTrie.l1 k k0 acc ws (i : Int) (shiftN k0 ws[i] j) (j : Int)) r := by
  have h12 := hz _ (List.getElem_mem hi)
  intro n
  induction n with
  | zero =>
    intro j h
    refine Ev.succ ?_
    simp only [spec_ShiftTrie.l1]
    rw [wnext i (by omega), rd_nat ws hi]
    have e : shiftN k0 ws[i] j = shiftB k0 ws[i] := by unfold shiftB; rw [show j = ws[i].size by omega]
    rw [e]
    exact Ev.pos (by omega) (Ev.pos (by omega) (Ev.neg (by omega) (Ev.pos (by omega) hn)))
  | succ n ih =>
    intro j h
    have hs := shiftN_size k0 ws[i] j
    refine Ev.succ ?_
    simp only [spec_ShiftTrie.l1]
    rw [wnext j (by omega), rd_nat ws hi]
    refine Ev.pos (by omega) (Ev.pos (by omega) (Ev.pos (by omega) (Ev.pos (by omega) (Ev.bindc rfl (Ev.pos ?_ ?_)))))
    · have : (strOfNums ([(wrap64 (97 + (Int.tmod (wrap64 ((((bt ws[i] (j : Int)) - 97) % 256) + k0)) 26))) % 256] : List Int)).size = 1 := letterW_size _
      rw [this, hs]
      omega
    · exact ih (j + 1) (by omega)
theorem shift_l0 (k0 : Int) (ws : List ByteArray) (hl : ws.length ≤ 40) (hz : ∀ x ∈ ws, x.size ≤ 12) : ∀ (n i : Nat), i + n = ws.length → Ev (fun k => spec_ShiftTrie.l0 k k0 ((ws.take i).map (shiftB k0)) ws (i : Int)) (madeW (ws.map (shiftB k0))) := by
  intro n
  induction n with
  | zero =>
    intro i h
    refine Ev.succ ?_
    simp only [spec_ShiftTrie.l0]
    rw [List.take_of_length_le (by omega)]
    exact Ev.neg (by omega) (Ev.bind (spec5 _ (by rw [List.length_map]; omega)) (Ev.pure _))
  | succ n ih =>
    intro i h
    have hi : i < ws.length := by omega
    refine Ev.succ ?_
    simp only [spec_ShiftTrie.l0]
    refine Ev.pos (by omega) (shift_l1 k0 ws hl hz i hi _ (by rw [List.length_map, List.length_take]; omega) _ ?_ ws[i].size 0 (by omega))
    have := ih (i + 1) (by omega)
    rwa [List.take_succ_eq_append_getElem hi, List.map_append] at this
theorem both_ShiftTrie (l : List IN) (a : Int) : ∃ r, Ev (fun k => spec_ShiftTrie.f k l a) r ∧ Ev (fun _ => impl_ShiftTrie.f l a) r ∧ r.1.length ≤ 1048576 := by
  unfold spec_ShiftTrie.f impl_ShiftTrie.f
  rcases trie_cases l with hf | ⟨ws, hv, rfl, ht⟩
  · refine ⟨([], false), Ev.bind (specT l hf) (Ev.neg (by decide) (Ev.succ ?_)), Ev.const ?_, by decide⟩
    · simp only [spec_ShiftTrie.j0]
      exact Ev.pos (by simp) (Ev.pure _)
    · unfold mappedW
      rw [hf]
      split <;> rfl
  · by_cases h : 0 ≤ a ∧ a ≤ 25
    · have h3 := hv.len
      refine ⟨madeW (ws.map (shiftB a)), Ev.bind (specT _ ht) (Ev.pos rfl (Ev.bindc (l1In_t h) (Ev.succ ?_))), Ev.const ?_, madeW_le _⟩
      · simp only [spec_ShiftTrie.j0]
        exact Ev.neg (by simp) (Ev.bind (specWords hv) (shift_l0 a ws (by omega) (fun x hx => (hv.ok x hx).1) ws.length 0 (by omega)))
      · rw [if_pos h]
        unfold mappedW
        rw [ht, wordsV_trie hv]; rfl
    · refine ⟨([], false), Ev.bind (specT _ ht) (Ev.pos rfl (Ev.bindc (l1In_f h) (Ev.succ ?_))), Ev.const ?_, by decide⟩
      · simp only [spec_ShiftTrie.j0]
        exact Ev.pos (by simp) (Ev.pure _)
      · rw [if_neg h]
theorem pure_FnExactShiftTrie (l0 : List LN) (a1 : Int) (hl_l0 : l0.length ≤ maxLen) (hI_l0 : ∀ x ∈ l0, I64 x.f0 ∧ I64 x.f1) (hi_a1 : I64 a1) : ∃ k, laws_FnExactShiftTrie.f k l0 a1 = some true := by
  refine Ev.ex ?_
  unfold laws_FnExactShiftTrie.f
  by_cases h_l0 : l0.length ≤ 1048576
  case neg => exact Ev.bindc (szTrie_eq l0 (by unfold maxLen at hl_l0; omega)) (by rw [if_neg h_l0]; exact Ev.pos (by decide) (Ev.pure _))
  refine Ev.bindc (szTrie_eq l0 (by unfold maxLen at hl_l0; omega)) ?_
  rw [if_pos h_l0]
  refine Ev.neg (by omega) ?_
  have ht_l0 := toTrie_ev l0 (by omega)
  have hc_l0 : (cv l0).length ≤ 1048576 := by rw [cv_length]; omega
  obtain ⟨r, e1, e2, hr⟩ := both_ShiftTrie (cv l0) a1
  have hq := eqTrie_ev r.1 r.1 hr
  refine (Ev.bind ht_l0 (Ev.bind e1 (Ev.bind ht_l0 (Ev.bind e2 (Ev.bind hq (Ev.pos (by simp) (Ev.succ ?_)))))))
  simp only [laws_FnExactShiftTrie.j0]
  obtain ⟨m, hm⟩ := markTrie_ev (cv l0) hc_l0
  refine Ev.neg (by simp) (Ev.bind ht_l0 (Ev.bind (eqTrie_ev _ _ hc_l0) (Ev.pos (by simp) (Ev.bind hm (Ev.neg (by simp only; omega) (Ev.bind hq (Ev.pos (by simp) (Ev.succ ?_))))))))
  simp only [laws_FnExactShiftTrie.j1]
  obtain ⟨ms, hs1, hs2⟩ := markH_ev r.1 hr
  refine Ev.neg (by simp) (Ev.bind hs1 (Ev.bind hs2 (Ev.neg (by omega) (Ev.pos rfl (Ev.bind ht_l0 (Ev.bind e2 (Ev.bind hq (Ev.pos (by simp) (Ev.succ ?_)))))))))
  simp only [laws_FnExactShiftTrie.j2]
  exact Ev.neg (by simp) (Ev.bind hs2 (Ev.neg (by omega) (Ev.pos rfl (Ev.pure _))))
end Go.Proofs.YtefcbnlljpdjnaaDoor.Q
namespace Go.Proofs.YtefcbnlljpdjnaaDoor.Pure
theorem FnExactShiftTrie (l0 : List Q.LN) (a1 : Int) (hl_l0 : l0.length ≤ maxLen) (hI_l0 : ∀ x ∈ l0, Q.I64 x.f0 ∧ Q.I64 x.f1) (hi_a1 : Q.I64 a1) : ∃ k, Q.laws_FnExactShiftTrie.f k l0 a1 = some true := Q.pure_FnExactShiftTrie l0 a1 hl_l0 hI_l0 hi_a1
end Go.Proofs.YtefcbnlljpdjnaaDoor.Pure
namespace Go.Proofs.YtefcbnlljpdjnaaDoor.fnExactShiftTrie
open Go.ChangeShapes Go.WideShapes Go.ChangeAt Go.RowKit
open Go.ChangeMaps (open_string shut_string)
set_option linter.unusedVariables false
theorem own : ownKnob Tryd.prog.godebug = none := by kernel_rfl
theorem laidOut : laidOutB Tryd.prog = true := by kernel_rfl
set_option maxRecDepth 100000 in
theorem lifted (os : Os) (started : os.Started) (H : Type) (enc : TypeId × Value → H) :
    ReturnsInHanded {} Tryd.checked os 11 .any (fun w args => (Rows.fnExactShiftTrieSpec.pre enc Tryd.prog Tryd.f11 Rows.fnExactShiftTrieRow.domain false w args ∧ laidMetH Tryd.prog Rows.fnExactShiftTrieRow.laid w) ∧ sizedMet enc Tryd.prog Tryd.f11 (OpenSpec.ofChange Rows.fnExactShiftTrieSpec) false w args) (Rows.fnExactShiftTrieSpec.post enc Tryd.prog Tryd.f11 false true false false) := by
  refine returnsInHanded_of_change_and (C := Tryd.checked) (X := fun w _ => laidMetH Tryd.prog Rows.fnExactShiftTrieRow.laid w) (fun _ _ _ hh h => h.of_heap hh) own started (by kernel_rfl) Tryd.func11
    (ChangeSpec.witness_shaped (enc := enc) (C := Tryd.checked) (os := os) (X := fun w _ => laidMetH Tryd.prog Rows.fnExactShiftTrieRow.laid w) false (World.laidAll Tryd.prog os Rows.fnExactShiftTrieRow.laid) #[.agg #[.slice none 0 0], .int .i64 0] 8 (World.laidAll_os _ _ _)
      (World.shaped_of_ZipB (by kernel_rfl) (by kernel_rfl)) (by kernel_rfl) (by kernel_rfl) (by kernel_rfl)
      (by rw [MakeChecks.laidMetH_plain _ _ _ (by kernel_rfl)]; exact laidMet_laidAll _ (by kernel_rfl) (by kernel_rfl))) ?_
  intro W base args ds gs before hval0 hW hcnd hsz0 hL _
  have hsz : (DataW.weightsEach Tryd.prog (Tryd.f11.params.toList ++ Rows.fnExactShiftTrieSpec.plain.varTypes Tryd.prog) (ds ++ gs)).all (· ≤ reachBytes) = true := hsz0
  have hval : ∀ (j : Nat) t v, Tryd.f11.params[j]? = some t → args[j]? = some v → Value.okWide Tryd.prog W .any base t v := hval0
  have hW' := hW
  obtain ⟨p, q, hA0, hV, rfl, hfz, hnd⟩ := hW
  have hA : DataW.TrodAll enc Tryd.prog W 0 (fun _ => true) true Tryd.f11.params.toList args.toList ds p := hA0
  rw [Tryd.params11] at hA hval hsz
  obtain ⟨v0, vs0, d0, ds0, p0, q0, hargs, rfl, rfl, h0, r0⟩ := trodAll_cons hA
  obtain ⟨v1, vs1, d1, ds1, p1, q1, rfl, rfl, rfl, h1, r1⟩ := trodAll_cons r0
  obtain ⟨rfl, rfl, rfl⟩ := trodAll_nil r1
  obtain rfl : args = #[v0, v1] := by cases args; simp_all
  obtain ⟨rfl, rfl⟩ := trodVars_none hV
  have k0 := h0
  have lt0 : ∀ x ∈ p0, x.block < W.heap.size := by obtain ⟨m, hm⟩ := k0; exact DataW.trod_lt m _ _ _ hm
  obtain ⟨A0, c0, l0, rfl, hC0, hc0, hl0, hI0⟩ := Q.open_trie (hval 0 36 v0 rfl rfl) h0
  obtain ⟨a1, rfl, rfl, rfl, w1⟩ := open_int Tryd.underlying3 (hval 1 3 v1 rfl rfl) h1
  clear hA0 hval0 hsz0 hsz
  obtain ⟨k, hk⟩ := Pure.FnExactShiftTrie l0 a1 hl0 hI0 (Q.I64_of w1)
  refine (Q.laws_FnExactShiftTrie.calls k A0 c0 l0 a1 true W hC0 hc0 hk).mono fun e W' ⟨he, bel0⟩ => ?_
  have bel : Below W.heap.size W W' := bel0
  subst he
  exact ⟨_, rfl, _, _, _, [], _, [], hW', trodAll_mk1 (shut_bool Tryd.underlying4 _), (trodAll_cons_mk (Below.trod laidOut (by kernel_rfl) (of_decide_eq_true (by kernel_rfl)) k0 bel lt0) (trodAll_cons_mk (shut_int Tryd.underlying3 w1) trodAll_mk0)), rfl, bel.frame _, fun h => by cases h⟩
theorem over : Rows.fnExactShiftTrieRow.holds Tryd.pinned (OpenSpec.ofChange Rows.fnExactShiftTrieSpec) :=
  OpenClaim.holds_of_wide 11 Tryd.f11 rfl rfl rfl rfl rfl rfl rfl ⟨rfl, rfl, rfl, rfl, rfl⟩ rfl rfl rfl rfl rfl (by kernel_rfl) Tryd.func11 (by kernel_rfl)
    (of_decide_eq_true (by kernel_rfl)) (by unfold Func.isWrapper; first | (rw [if_pos (by decide +kernel)]; kernel_rfl) | (rw [if_neg (by decide +kernel)]; exact ⟨rfl, rfl⟩))
    (fun os started H enc _ => lifted os started H enc)
set_option maxRecDepth 100000 in
theorem proved : Rows.FnExactShiftTrieCardSaid :=
  Claim7.holds_tied_plain_at .later [] [.data, .pinned] true (true, "bdcb3db80251c561bbc8334c7731308294adf86d7be7bd4d1a885b00a83deeb2") false over (fun _ h => by cases h) (by kernel_rfl) (fun _ h => by cases h) fnExactShiftTrie_row_tie rfl ⟨rfl, rfl⟩ (by kernel_rfl) rfl
    (fun f fn hf hfn => by
      obtain rfl : f = 11 := Option.some.inj ((show Tryd.prog.funcNamed Tryd.f11.name = some 11 by kernel_rfl).symm.trans hf) |>.symm
      obtain rfl : fn = Tryd.f11 := (Option.some.inj (Tryd.func11.symm.trans hfn)).symm
      exact ⟨by kernel_rfl, fun j t ht => by
        rw [Tryd.params11] at ht
        have hm : t ∈ [36, 3] := by simpa using Array.mem_of_getElem? ht
        have hall : ([36, 3].all fun u => !Tryd.prog.wantsStandIn u) = true := by kernel_rfl
        exact (show Tryd.prog.wantsStandIn t = false by simpa using List.all_eq_true.1 hall t hm)⟩)
    (by kernel_rfl)
end Go.Proofs.YtefcbnlljpdjnaaDoor.fnExactShiftTrie
namespace Go.Proofs.YtefcbnlljpdjnaaDoor
theorem fnExactShiftTrie_holds : Rows.FnExactShiftTrieCardSaid := fnExactShiftTrie.proved
end Go.Proofs.YtefcbnlljpdjnaaDoor
