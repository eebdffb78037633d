/- The law FnExactDropWord: for every input the call answers true and leaves its arguments as they were. -/
import Derived.Test.YtefcbnlljpdjnaaDoorB0
import Derived.Test.YtefcbnlljpdjnaaDoorB1
import Derived.Test.YtefcbnlljpdjnaaDoorB2
import Derived.Test.YtefcbnlljpdjnaaDoorB3
import Derived.Test.YtefcbnlljpdjnaaDoorB5
import Derived.Test.YtefcbnlljpdjnaaDoorB7
import Derived.Test.YtefcbnlljpdjnaaDoorBwInv
import Derived.Lib.OwnBridge
import Derived.Sort.OwnSorted
import Derived.Sort.Grow
import Derived.Lib.SlicesCompact
import Derived.Test.YtefcbnlljpdjnaaDoorProg
import Derived.Below
import Derived.Deep.Draws
import Derived.Deep.AppendLies
import Derived.Maps.AppendAt
import Derived.OwnWalk
import Derived.Laws.BytesArg
import Derived.Laws.MakeOwn
import Derived.Laws.OwnMore
import Derived.Deep.OwnRows
import Derived.Tactics
import Derived.Lib.ConvBytes
import Derived.Laws.Slices
import Derived.WalkKit
import Derived.KernelRfl
import Derived.RowKit3
import Derived.Deep.LoopGhost
import Derived.Deep.QuietTactic
import Derived.BigQuiet
import Derived.WideLaws
import Derived.Deep.DeepCutAuto
import Derived.Deep.CutBlock
import Derived.Deep.RegionHeld3
import Derived.Laws.Rows
import Derived.Lib.AppendStr
import Derived.ArgAppend
import Derived.Laws.IdiomCopy
import Derived.OrdersHeld
import Derived.Laws.BitsLemmas
import Derived.RowKit
import Derived.Shelf.SlicesE.DeleteFunc
import Derived.Lib.SliceRun
import Derived.Shelf.Strings.SlTrimAscii
import Derived.Ground.NamesProg
import Derived.Ground.SlgfProg
import Derived.Maps.Own
import Derived.StringKeys
import Derived.Maps.OwnOps
import Derived.Maps.OwnSet
import Derived.Maps.Views
import Derived.Laws.AppendOwn
import Derived.Deep.DrawnRows
import Derived.Shelf.Sort.Plain
import Derived.Shelf.Slices.CompactS
import Derived.Shelf.Slices.In.SortNone
import Derived.RangeFuncBox
import Derived.RangeFuncLeaves
import Derived.Shelf.Abstract
import Derived.OwnWalkIn
import Derived.TacticsInMore
import Derived.LoopNIn
import Derived.LoopIn
import Derived.Shelf.Strings.OnBuilder
import Derived.Sort.Walk0
import Derived.Lib.Strings
import Derived.Lib.SlKept
import Derived.Deep.Slices
import Derived.Deep.Fields
import Derived.ChangeSame
import Derived.ChangeArms
import Derived.WideShapes
import Derived.Test.YtefcbnlljpdjnaaDoorRows
import Derived.Test.YtefcbnlljpdjnaaDoorTie
import Derived.Test.YtefcbnlljpdjnaaDoorCards
import Derived.ProofKit
import Derived.OpenShut
import Derived.ShutString
import Derived.ChangeOld
import Derived.SizedLaws
import Derived.Carry
import Derived.LaidMore
import Derived.Lay
import Derived.SevenTiedAt
import Derived.Stop.Joined
set_option linter.unusedVariables false
set_option linter.unusedSimpArgs false
namespace Go.Proofs.YtefcbnlljpdjnaaDoor.Q
open Go.RowKit Go.Sort Go.Proofs.YtefcbnlljpdjnaaDoorW.PrintWords Go.Proofs.YtefcbnlljpdjnaaDoorW.PrintLast Go.Proofs.YtefcbnlljpdjnaaDoorW.PrintMore
set_option linter.unusedVariables false
theorem reps_scalar_inv {α : Type} (enc : α → Value) {ps : List α} {cs : List Value} (h : Reps (fun x cs => cs = [enc x]) 1 ps cs) : cs = ps.map enc := by
  obtain ⟨hl, hr⟩ := h
  apply List.ext_getElem
  · simp [hl]
  · intro i h1 h2
    have hi : i < ps.length := by simpa using h2
    have h3 : (cs.drop (i * 1)).take 1 = [enc ps[i]] := hr i ps[i] (List.getElem?_eq_getElem hi)
    have h0 : ((cs.drop (i * 1)).take 1)[0]? = some (enc ps[i]) := by rw [h3]; rfl
    rw [List.getElem?_take_of_lt (by omega), List.getElem?_drop, List.getElem?_eq_getElem (by omega)] at h0
    simp only [Nat.mul_one, Nat.add_zero, Option.some.injEq] at h0
    rw [h0, List.getElem_map]
theorem owns_of_R {w : World} {e base : Nat} {ok : Nat → Prop} {v : Value} {xs : List ByteArray} (h : Kd.R Kd.string e w base ok v xs) : w.ownsRow base e 1 v xs.length (xs.map Value.string) := by
  obtain ⟨h0, inner, ho, hr⟩ := h
  rw [← reps_scalar_inv Value.string hr]
  exact ho
end Go.Proofs.YtefcbnlljpdjnaaDoor.Q
namespace Go.Proofs.YtefcbnlljpdjnaaDoor.Q
open Go.RowKit Go.Proofs.YtefcbnlljpdjnaaDoorW.PrintWords
theorem SS.nodup {l : List ByteArray} (h : SS l) : l.Nodup := h.imp (fun {a b} h e => by subst e; exact List.lt_irrefl _ h)
end Go.Proofs.YtefcbnlljpdjnaaDoor.Q
namespace Go.Proofs.YtefcbnlljpdjnaaDoor.Q
open Go.RowKit Go.Sort Go.Shelf Go.Proofs.YtefcbnlljpdjnaaDoorW.PrintWords Go.Proofs.YtefcbnlljpdjnaaDoorW.PrintLast Go.Proofs.YtefcbnlljpdjnaaDoorW.PrintMore
set_option linter.unusedVariables false
set_option linter.unusedSimpArgs false
theorem Tells.up {g : Nat} {bs lb : Array Value} {p : ByteArray → Bool} {base base' : Nat} {w : World} (h : Tells g bs lb p base w) (hb : base ≤ base') : Tells g bs lb p base' w := fun x W hW => h x W (hW.mono hb)
end Go.Proofs.YtefcbnlljpdjnaaDoor.Q
namespace Go.Proofs.YtefcbnlljpdjnaaDoor.Q
open Go.RowKit Go.Proofs.YtefcbnlljpdjnaaDoorW.PrintWords Go.Proofs.YtefcbnlljpdjnaaDoorW.PrintLast Go.Proofs.YtefcbnlljpdjnaaDoorW.PrintMore
attribute [local go_sem] run_field_25 run_field_26 run_field_35 run_field_36 isSome_setCell max2_int min2_int max_two min_two max_three min_three max_four min_four   -- for this text's walks alone
set_option linter.unusedVariables false
set_option linter.unusedSimpArgs false
def slices_Index_string_string.l0 : Nat → List ByteArray → ByteArray → Int → Int → Option (Int)
  | 0, _, _, _, _ => none
  | k + 1, x0, x1, x7, x8 => if x8 < x7 then (if 0 ≤ x8 then (if x8 < (x0.length : Int) then (if x1.toList = (rdOf ByteArray.empty x0 x8).toList then (some x8) else (slices_Index_string_string.l0 k x0 x1 x7 (wrap64 (x8 + 1)))) else (none)) else (none)) else (some (-1))
def slices_Index_string_string.f (k : Nat) (l0 : List ByteArray) (a1 : ByteArray) : Option (Int) := slices_Index_string_string.l0 k l0 a1 (l0.length : Int) 0
set_option maxHeartbeats 8000000 in
set_option maxRecDepth 100000 in
theorem slices_Index_string_string.calls (k : Nat) (A0 : Option Addr) (c0 : Nat) (l0 : List ByteArray) (a1 : ByteArray) (r : Int) (w : World) (hr0 : Kd.C Kd.string w A0 l0.length l0) (hc0 : l0.length ≤ c0) (h : slices_Index_string_string.f k l0 a1 = some r) :
    Calls Tryd.prog 96 #[.slice A0 l0.length c0, .string a1] w fun e w' => e = .returned (.int .i64 r) ∧ Drawn0 w w' := by
  have HR0 := Aside0.mk hr0
  have HC0 := Aside0.mk hc0
  clear hr0 hc0
  have H : (slices_Index_string_string.l0 k l0 a1 (l0.length : Int) 0) = some r := h
  clear h
  have H' := Aside0.mk H
  clear H
  go_enter Tryd.func96, Tryd.ntmps96
  go_wp2
  go_loopg [8] k (fun kq v8 w' => ∃ (x8_1 : Int), v8 = .int .i64 x8_1 ∧ Aside0 (slices_Index_string_string.l0 kq l0 a1 (l0.length : Int) x8_1 = some r) ∧ Aside0 (kq ≤ k) ∧ Drawn0 w w')
  case atStart => exact ⟨(0), (by first | rfl | (simp; done) | (simp [*]; done)), H', ⟨Nat.le_refl _⟩, by repeat (first | exact Drawn0.refl _ | apply Drawn0.step)⟩
  case round =>
    clear H'
    try clear p2
    obtain ⟨x8_1, rfl, HA, HK1, ⟨m1, rfl⟩⟩ := hrel
    cases gk with
    | zero => exact absurd HA.out (by simp [slices_Index_string_string.l0])
    | succ k1 =>
      have H := HA.out
      clear HA
      simp only [slices_Index_string_string.l0] at H
      by_cases c3 : x8_1 < (l0.length : Int)
      · rw [if_pos c3] at H
        have c3b0 : decide (x8_1 < (l0.length : Int)) = true := decide_eq_true c3
        clear c3
        by_cases c4 : 0 ≤ x8_1
        · rw [if_pos c4] at H
          have c4b0 : decide (0 ≤ x8_1) = true := decide_eq_true c4
          clear c4
          by_cases c5 : x8_1 < (l0.length : Int)
          · rw [if_pos c5] at H
            have c5b0 : decide (x8_1 < (l0.length : Int)) = true := decide_eq_true c5
            clear c5
            by_cases c6 : a1.toList = (rdOf ByteArray.empty l0 x8_1).toList
            · rw [if_pos c6] at H
              have c6b0 : (a1.toList == (rdOf ByteArray.empty l0 x8_1).toList) = true := beq_iff_eq.mpr c6
              have c6b1 : (a1.toList != (rdOf ByteArray.empty l0 x8_1).toList) = false := bne_eq_false_iff_eq.mpr c6
              clear c6
              obtain rfl := Option.some.inj H
              have p144 : 0 ≤ (x8_1 : Int) := of_decide_eq_true (by first | (with_reducible assumption) | assumption)
              have q144 : x8_1 < (l0.length : Int) := of_decide_eq_true (by first | (with_reducible assumption) | assumption)
              obtain ⟨ad144, e144, hx144_0⟩ := Kd.at_string HR0.out x8_1 p144 q144
              cases e144
              replace p144 := eq_true p144
              replace q144 := eq_true q144
              go_wp2
              go_ret
              exact ⟨by first | rfl | (simp; done) | (simp [*]; done), by repeat (first | exact Drawn0.refl _ | apply Drawn0.step)⟩
            · rw [if_neg c6] at H
              have c6b0 : (a1.toList == (rdOf ByteArray.empty l0 x8_1).toList) = false := beq_eq_false_iff_ne.mpr c6
              have c6b1 : (a1.toList != (rdOf ByteArray.empty l0 x8_1).toList) = true := bne_iff_ne.mpr c6
              have H' := Aside0.mk H
              clear H
              have p144 : 0 ≤ (x8_1 : Int) := of_decide_eq_true (by first | (with_reducible assumption) | assumption)
              have q144 : x8_1 < (l0.length : Int) := of_decide_eq_true (by first | (with_reducible assumption) | assumption)
              obtain ⟨ad144, e144, hx144_0⟩ := Kd.at_string HR0.out x8_1 p144 q144
              cases e144
              replace p144 := eq_true p144
              replace q144 := eq_true q144
              go_wp2
              go_roundg k1
              case measure => have := HK1.out; omega
              case rel => exact ⟨(wrap64 (x8_1 + 1)), (by first | rfl | (simp; done) | (simp [*]; done)), H', ⟨by have := HK1.out; omega⟩, by repeat (first | exact Drawn0.refl _ | apply Drawn0.step)⟩
          · rw [if_neg c5] at H
            exact absurd H (by simp)
        · rw [if_neg c4] at H
          exact absurd H (by simp)
      · rw [if_neg c3] at H
        have c3b0 : decide (x8_1 < (l0.length : Int)) = false := decide_eq_false c3
        clear c3
        obtain rfl := Option.some.inj H
        go_wp2
        go_ret
        exact ⟨by first | rfl | (simp; done) | (simp [*]; done), by repeat (first | exact Drawn0.refl _ | apply Drawn0.step)⟩
def slices_Contains_string_string.f (k : Nat) (l0 : List ByteArray) (a1 : ByteArray) : Option (Bool) := (slices_Index_string_string.f k l0 a1).bind fun t145 => (some (decide (t145 ≥ 0)))
set_option maxHeartbeats 8000000 in
set_option maxRecDepth 100000 in
theorem slices_Contains_string_string.calls (k : Nat) (A0 : Option Addr) (c0 : Nat) (l0 : List ByteArray) (a1 : ByteArray) (r : Bool) (w : World) (hr0 : Kd.C Kd.string w A0 l0.length l0) (hc0 : l0.length ≤ c0) (h : slices_Contains_string_string.f k l0 a1 = some r) :
    Calls Tryd.prog 87 #[.slice A0 l0.length c0, .string a1] w fun e w' => e = .returned (.bool r) ∧ Drawn0 w w' := by
  have HR0 := Aside0.mk hr0
  have HC0 := Aside0.mk hc0
  clear hr0 hc0
  have H : ((slices_Index_string_string.f k l0 a1).bind fun t145 => (some (decide (t145 ≥ 0)))) = some r := h
  clear h
  replace H := Option.bind_eq_some_iff.mp H
  obtain ⟨t145, A30, H⟩ := H
  replace H : (some (decide (t145 ≥ 0))) = some r := H
  have A3 := Aside0.mk A30
  clear A30
  obtain rfl := Option.some.inj H
  go_enter Tryd.func87, Tryd.ntmps87
  go_wp2_with (first | ((with_reducible refine gate_callee (f := 96) rfl ?_); refine goesL_ (some 7) rfl rfl Tryd.func96 (by kernel_rfl) rfl #[.slice A0 l0.length c0, .string a1] rfl (by (try simp only [List.map_toArray, List.map_cons, List.map_nil]); first | done | rfl | (simp only [List.length_drop, List.length_take]; rfl)) ?_; (with_reducible refine (slices_Index_string_string.calls k _ _ l0 a1 t145 _ ?side1 ?side2 A3.out).mono ?_); (case side1 => repeat (first | exact HR0.out | (with_reducible refine Kd.C_alloc ?_ _) | (with_reducible refine Kd.C_drewN ?_ _) | (with_reducible refine Kd.C_drew ?_))); (case side2 => exact HC0.out); rintro e w' ⟨rfl, ⟨nd, rfl⟩⟩; refine ⟨_, rfl, ?_⟩))
  go_ret
  exact ⟨by first | rfl | (simp; done) | (simp [*]; done), by repeat (first | exact Drawn0.refl _ | apply Drawn0.step)⟩
def impl_Trie_has.f (k : Nat) (l0_0 : List (S76)) (a1 : ByteArray) : Option (Bool) := (impl_Trie_words.f k l0_0).bind fun t147 => ((slices_Contains_string_string.f k t147 a1).bind fun t150 => (some t150))
set_option maxHeartbeats 8000000 in
set_option maxRecDepth 100000 in
theorem impl_Trie_has.calls (k : Nat) (A0_0 : Option Addr) (c0_0 : Nat) (l0_0 : List (S76)) (a1 : ByteArray) (r : Bool) (w : World) (hr0_0 : Kd.C k76 w A0_0 l0_0.length l0_0) (hc0_0 : l0_0.length ≤ c0_0) (h : impl_Trie_has.f k l0_0 a1 = some r) :
    Calls Tryd.prog 59 #[.agg #[.slice A0_0 l0_0.length c0_0], .string a1] w fun e w' => e = .returned (.bool r) ∧ Below w.heap.size w w' := by
  have hu26 := Tryd.underlying26
  have HR0_0 := Aside0.mk hr0_0
  have HC0_0 := Aside0.mk hc0_0
  clear hr0_0 hc0_0
  have HB := Aside0.mk (Below.refl w.heap.size w)
  have H : ((impl_Trie_words.f k l0_0).bind fun t147 => ((slices_Contains_string_string.f k t147 a1).bind fun t150 => (some t150))) = some r := h
  clear h
  replace H := Option.bind_eq_some_iff.mp H
  obtain ⟨t147, A30, H⟩ := H
  replace H : ((slices_Contains_string_string.f k t147 a1).bind fun t150 => (some t150)) = some r := H
  have A3 := Aside0.mk A30
  clear A30
  replace H := Option.bind_eq_some_iff.mp H
  obtain ⟨t150, A40, H⟩ := H
  replace H : (some t150) = some r := H
  have A4 := Aside0.mk A40
  clear A40
  obtain rfl := Option.some.inj H
  go_enter Tryd.func59, Tryd.ntmps59
  go_wp2_with (first | ((with_reducible refine gate_dst (N := 2) rfl ?_); refine box_event ?hg (N := 2) ?hd (cs := #[.slice A0_0 l0_0.length c0_0]) (t := 26) ?hr ?_; (case hd => rfl); (case hg => rfl); (case hr => first | (go_simp; done) | (go_simp; rfl)); intro gb146 hg w5 hbox hb; have n0_ := Aside0.mk (below_step (by repeat (first | (with_reducible first | exact HB.out | apply below_alloc | apply pw_below_drewN | apply below_drew1) | exact HB.out)) hb); have n1_ := Aside0.mk (hbox); have n2_ := Aside0.mk ((by rw [hg]; exact (below_size (by repeat (first | (with_reducible first | exact HB.out | apply below_alloc | apply pw_below_drewN | apply below_drew1) | exact HB.out))) : w.heap.size ≤ gb146)); have n3_ := Aside0.mk ((by rw [hg]; exact (below_size (by repeat (first | (with_reducible first | exact HB.out | apply below_alloc | apply pw_below_drewN | apply below_drew1) | exact HB.out))) : w.heap.size ≤ gb146)); clear HB; have HB := n0_; have BK146 := n1_; have GW146 := n2_; have GE146 := n3_; clear n0_ n1_ n2_ n3_; clear hb hbox hg; have hcz6_0 : w5.cell? ⟨gb146, 0, none⟩ = some (.slice A0_0 l0_0.length c0_0) := (blk_cell BK146.out 0).trans rfl; have hfz6_0 := blk_frozen BK146.out 0) | ((with_reducible refine gate_callee (f := 57) rfl ?_); refine goesL_ (some 6) rfl rfl Tryd.func57 (by kernel_rfl) rfl #[.agg #[.slice A0_0 l0_0.length c0_0]] rfl (by (try simp only [List.map_toArray, List.map_cons, List.map_nil]); first | done | rfl | (simp only [List.length_drop, List.length_take]; rfl)) ?_; (with_reducible refine (impl_Trie_words.calls k _ _ l0_0 t147 _ ?side1 ?side2 A3.out).mono ?_); (case side1 => repeat (first | exact (Kd.C_below HR0_0.out HB.out) | (with_reducible refine Kd.C_alloc ?_ _) | (with_reducible refine Kd.C_drewN ?_ _) | (with_reducible refine Kd.C_drew ?_))); (case side2 => exact HC0_0.out); rintro e w7 ⟨v148, rfl, ho0, hb⟩; refine ⟨_, rfl, ?_⟩; have n0_ := Aside0.mk (Kd.R_lower ho0 (below_size (by repeat (first | (with_reducible first | exact HB.out | apply below_alloc | apply pw_below_drewN | apply below_drew1 | refine below_set ?_ GE146.out) | exact HB.out)))); have n1_ := Aside0.mk (blk_below (g := gb146) (o := .cells #[.slice A0_0 l0_0.length c0_0] 26 (0, 0)) (by (with_reducible repeat (first | refine blk_drewN ?_ _ | refine blk_drew ?_ | refine blk_alloc ?_ _)); exact BK146.out) hb); have n2_ := Aside0.mk (below_step (by repeat (first | (with_reducible first | exact HB.out | apply below_alloc | apply pw_below_drewN | apply below_drew1 | refine below_set ?_ GE146.out) | exact HB.out)) hb); clear BK146; clear HB; have HO149 := n0_; have BK146 := n1_; have HB := n2_; clear n0_ n1_ n2_; (try clear hb); (try clear hb2); (try clear hk); (try clear hi); (try clear ho0); obtain ⟨Ao8, co8, eo8⟩ := Kd.R_slice HO149.out; subst eo8) | ((with_reducible refine gate_callee (f := 87) rfl ?_); refine goesL_ (some 8) rfl rfl Tryd.func87 (by kernel_rfl) rfl #[.slice Ao8 t147.length co8, .string a1] rfl (by (try simp only [List.map_toArray, List.map_cons, List.map_nil]); first | done | rfl | (simp only [List.length_drop, List.length_take]; rfl)) ?_; (with_reducible refine (slices_Contains_string_string.calls k _ _ t147 a1 t150 _ ?side1 ?side2 A4.out).mono ?_); (case side1 => repeat (first | exact (Kd.R_reads' HO149.out).2.2 | (with_reducible refine Kd.C_alloc ?_ _) | (with_reducible refine Kd.C_drewN ?_ _) | (with_reducible refine Kd.C_drew ?_))); (case side2 => exact (Kd.R_reads' HO149.out).2.1); rintro e w' ⟨rfl, ⟨nd, rfl⟩⟩; refine ⟨_, rfl, ?_⟩))
  go_ret
  exact ⟨by first | rfl | (simp [errW_none, errW_some] <;> rfl) | (simp [*, errW_none, errW_some] <;> rfl), by repeat (first | (with_reducible first | exact HB.out | apply below_alloc | apply pw_below_drewN | apply below_drew1 | refine below_set ?_ GE146.out) | exact HB.out)⟩
end Go.Proofs.YtefcbnlljpdjnaaDoor.Q
namespace Go.Proofs.YtefcbnlljpdjnaaDoor.Q
open Go.RowKit Go.Proofs.YtefcbnlljpdjnaaDoorW.PrintWords Go.Proofs.YtefcbnlljpdjnaaDoorW.PrintLast Go.Proofs.YtefcbnlljpdjnaaDoorW.PrintMore
attribute [local go_sem] run_field_25 run_field_26 run_field_35 run_field_36 isSome_setCell max2_int min2_int max_two min_two max_three min_three max_four min_four   -- for this text's walks alone
set_option linter.unusedVariables false
set_option linter.unusedSimpArgs false
def impl_areKept.f (k : Nat) (l0_0 : List (S76)) (a1 : ByteArray) : Option (Bool) := (impl_isTrie.f k l0_0).bind fun t172 => (if t172 = true then ((impl_isWord.f a1).bind fun t173 => (some t173)) else (some false))
set_option maxHeartbeats 8000000 in
set_option maxRecDepth 100000 in
theorem impl_areKept.calls (k : Nat) (A0_0 : Option Addr) (c0_0 : Nat) (l0_0 : List (S76)) (a1 : ByteArray) (r : Bool) (w : World) (hr0_0 : Kd.C k76 w A0_0 l0_0.length l0_0) (hc0_0 : l0_0.length ≤ c0_0) (h : impl_areKept.f k l0_0 a1 = some r) :
    Calls Tryd.prog 55 #[.agg #[.slice A0_0 l0_0.length c0_0], .string a1] w fun e w' => e = .returned (.bool r) ∧ Below w.heap.size w w' := by
  have hu26 := Tryd.underlying26
  have HR0_0 := Aside0.mk hr0_0
  have HC0_0 := Aside0.mk hc0_0
  clear hr0_0 hc0_0
  have HB := Aside0.mk (Below.refl w.heap.size w)
  have H : ((impl_isTrie.f k l0_0).bind fun t172 => (if t172 = true then ((impl_isWord.f a1).bind fun t173 => (some t173)) else (some false))) = some r := h
  clear h
  replace H := Option.bind_eq_some_iff.mp H
  obtain ⟨t172, A30, H⟩ := H
  replace H : (if t172 = true then ((impl_isWord.f a1).bind fun t173 => (some t173)) else (some false)) = some r := H
  have A3 := Aside0.mk A30
  clear A30
  by_cases c4 : t172 = true
  · subst c4
    have H1 : ((impl_isWord.f a1).bind fun t173 => (some t173)) = some r := by rw [if_pos rfl] at H; exact H
    clear H
    have H := H1
    clear H1
    replace H := Option.bind_eq_some_iff.mp H
    obtain ⟨t173, A50, H⟩ := H
    replace H : (some t173) = some r := H
    have A5 := Aside0.mk A50
    clear A50
    obtain rfl := Option.some.inj H
    go_enter Tryd.func55, Tryd.ntmps55
    go_wp2_with (first | ((with_reducible refine gate_dst (N := 2) rfl ?_); refine box_event ?hg (N := 2) ?hd (cs := #[.slice A0_0 l0_0.length c0_0]) (t := 26) ?hr ?_; (case hd => rfl); (case hg => rfl); (case hr => first | (go_simp; done) | (go_simp; rfl)); intro gb171 hg w6 hbox hb; have n0_ := Aside0.mk (below_step (by repeat (first | (with_reducible first | exact HB.out | apply below_alloc | apply pw_below_drewN | apply below_drew1) | exact HB.out)) hb); have n1_ := Aside0.mk (hbox); have n2_ := Aside0.mk ((by rw [hg]; exact (below_size (by repeat (first | (with_reducible first | exact HB.out | apply below_alloc | apply pw_below_drewN | apply below_drew1) | exact HB.out))) : w.heap.size ≤ gb171)); have n3_ := Aside0.mk ((by rw [hg]; exact (below_size (by repeat (first | (with_reducible first | exact HB.out | apply below_alloc | apply pw_below_drewN | apply below_drew1) | exact HB.out))) : w.heap.size ≤ gb171)); clear HB; have HB := n0_; have BK171 := n1_; have GW171 := n2_; have GE171 := n3_; clear n0_ n1_ n2_ n3_; clear hb hbox hg; have hcz7_0 : w6.cell? ⟨gb171, 0, none⟩ = some (.slice A0_0 l0_0.length c0_0) := (blk_cell BK171.out 0).trans rfl; have hfz7_0 := blk_frozen BK171.out 0) | ((with_reducible refine gate_callee (f := 68) rfl ?_); refine goesL_ (some 6) rfl rfl Tryd.func68 (by kernel_rfl) rfl #[.agg #[.slice A0_0 l0_0.length c0_0]] rfl (by (try simp only [List.map_toArray, List.map_cons, List.map_nil]); first | done | rfl | (simp only [List.length_drop, List.length_take]; rfl)) ?_; (with_reducible refine (impl_isTrie.calls k _ _ l0_0 true _ ?side1 ?side2 A3.out).mono ?_); (case side1 => repeat (first | exact (Kd.C_below HR0_0.out HB.out) | (with_reducible refine Kd.C_alloc ?_ _) | (with_reducible refine Kd.C_drewN ?_ _) | (with_reducible refine Kd.C_drew ?_))); (case side2 => exact HC0_0.out); rintro e w8 ⟨rfl, hb⟩; refine ⟨_, rfl, ?_⟩; have n0_ := Aside0.mk (blk_below (g := gb171) (o := .cells #[.slice A0_0 l0_0.length c0_0] 26 (0, 0)) (by (with_reducible repeat (first | refine blk_drewN ?_ _ | refine blk_drew ?_ | refine blk_alloc ?_ _)); exact BK171.out) hb); have n1_ := Aside0.mk (below_step (by repeat (first | (with_reducible first | exact HB.out | apply below_alloc | apply pw_below_drewN | apply below_drew1 | refine below_set ?_ GE171.out) | exact HB.out)) hb); clear BK171; clear HB; have BK171 := n0_; have HB := n1_; clear n0_ n1_; (try clear hb); (try clear hb2); (try clear hk); (try clear hi)) | (go_at_call 43; (with_reducible refine (impl_isWord.calls a1 t173 _ A5.out).mono ?_); rintro e w9 ⟨rfl, hb⟩; have n0_ := Aside0.mk (blk_below (g := gb171) (o := .cells #[.slice A0_0 l0_0.length c0_0] 26 (0, 0)) (by (with_reducible repeat (first | refine blk_drewN ?_ _ | refine blk_drew ?_ | refine blk_alloc ?_ _)); exact BK171.out) hb); have n1_ := Aside0.mk (below_step (by repeat (first | (with_reducible first | exact HB.out | apply below_alloc | apply pw_below_drewN | apply below_drew1 | refine below_set ?_ GE171.out) | exact HB.out)) hb); clear BK171; clear HB; have BK171 := n0_; have HB := n1_; clear n0_ n1_; (try clear hb); (try clear hb2); (try clear hk); (try clear hi)))
    go_ret
    exact ⟨by first | rfl | (simp [errW_none, errW_some] <;> rfl) | (simp [*, errW_none, errW_some] <;> rfl), by repeat (first | (with_reducible first | exact HB.out | apply below_alloc | apply pw_below_drewN | apply below_drew1 | refine below_set ?_ GE171.out) | exact HB.out)⟩
  · replace c4 := Bool.eq_false_iff.mpr c4
    subst c4
    have H1 : (some false) = some r := by rw [if_neg (show ¬ (false = true) by decide)] at H; exact H
    clear H
    have H := H1
    clear H1
    obtain rfl := Option.some.inj H
    go_enter Tryd.func55, Tryd.ntmps55
    go_wp2_with (first | ((with_reducible refine gate_dst (N := 2) rfl ?_); refine box_event ?hg (N := 2) ?hd (cs := #[.slice A0_0 l0_0.length c0_0]) (t := 26) ?hr ?_; (case hd => rfl); (case hg => rfl); (case hr => first | (go_simp; done) | (go_simp; rfl)); intro gb171 hg w10 hbox hb; have n0_ := Aside0.mk (below_step (by repeat (first | (with_reducible first | exact HB.out | apply below_alloc | apply pw_below_drewN | apply below_drew1) | exact HB.out)) hb); have n1_ := Aside0.mk (hbox); have n2_ := Aside0.mk ((by rw [hg]; exact (below_size (by repeat (first | (with_reducible first | exact HB.out | apply below_alloc | apply pw_below_drewN | apply below_drew1) | exact HB.out))) : w.heap.size ≤ gb171)); have n3_ := Aside0.mk ((by rw [hg]; exact (below_size (by repeat (first | (with_reducible first | exact HB.out | apply below_alloc | apply pw_below_drewN | apply below_drew1) | exact HB.out))) : w.heap.size ≤ gb171)); clear HB; have HB := n0_; have BK171 := n1_; have GW171 := n2_; have GE171 := n3_; clear n0_ n1_ n2_ n3_; clear hb hbox hg; have hcz11_0 : w10.cell? ⟨gb171, 0, none⟩ = some (.slice A0_0 l0_0.length c0_0) := (blk_cell BK171.out 0).trans rfl; have hfz11_0 := blk_frozen BK171.out 0) | ((with_reducible refine gate_callee (f := 68) rfl ?_); refine goesL_ (some 6) rfl rfl Tryd.func68 (by kernel_rfl) rfl #[.agg #[.slice A0_0 l0_0.length c0_0]] rfl (by (try simp only [List.map_toArray, List.map_cons, List.map_nil]); first | done | rfl | (simp only [List.length_drop, List.length_take]; rfl)) ?_; (with_reducible refine (impl_isTrie.calls k _ _ l0_0 false _ ?side1 ?side2 A3.out).mono ?_); (case side1 => repeat (first | exact (Kd.C_below HR0_0.out HB.out) | (with_reducible refine Kd.C_alloc ?_ _) | (with_reducible refine Kd.C_drewN ?_ _) | (with_reducible refine Kd.C_drew ?_))); (case side2 => exact HC0_0.out); rintro e w12 ⟨rfl, hb⟩; refine ⟨_, rfl, ?_⟩; have n0_ := Aside0.mk (blk_below (g := gb171) (o := .cells #[.slice A0_0 l0_0.length c0_0] 26 (0, 0)) (by (with_reducible repeat (first | refine blk_drewN ?_ _ | refine blk_drew ?_ | refine blk_alloc ?_ _)); exact BK171.out) hb); have n1_ := Aside0.mk (below_step (by repeat (first | (with_reducible first | exact HB.out | apply below_alloc | apply pw_below_drewN | apply below_drew1 | refine below_set ?_ GE171.out) | exact HB.out)) hb); clear BK171; clear HB; have BK171 := n0_; have HB := n1_; clear n0_ n1_; (try clear hb); (try clear hb2); (try clear hk); (try clear hi)))
    go_ret
    exact ⟨by first | rfl | (simp [errW_none, errW_some] <;> rfl) | (simp [*, errW_none, errW_some] <;> rfl), by repeat (first | (with_reducible first | exact HB.out | apply below_alloc | apply pw_below_drewN | apply below_drew1 | refine below_set ?_ GE171.out) | exact HB.out)⟩
end Go.Proofs.YtefcbnlljpdjnaaDoor.Q
namespace Go.Proofs.YtefcbnlljpdjnaaDoor.Q
open Go.RowKit Go.Proofs.YtefcbnlljpdjnaaDoorW.PrintWords Go.Proofs.YtefcbnlljpdjnaaDoorW.PrintLast
theorem isWordO (w : ByteArray) : impl_isWord.f w = some (decide (okWord w)) := by rw [isWordD', okWord_D]
theorem kept_ev (l : List IN) (w : ByteArray) : Ev (fun k => impl_areKept.f k l w) (isTrieW l && decide (okWord w)) := by
  unfold impl_areKept.f
  cases h : isTrieW l with
  | false => exact Ev.bind (implT l h) (Ev.neg (by decide) (Ev.pure _))
  | true => exact Ev.bind (implT l h) (Ev.pos rfl (Ev.bindc (isWordO w) (Ev.pure _)))
theorem kept_cases (l : List IN) (w : ByteArray) : (isTrieW l = false ∧ Ev (fun k => impl_areKept.f k l w) false) ∨ (isTrieW l = true ∧ ¬ okWord w ∧ Ev (fun k => impl_areKept.f k l w) false) ∨
    ∃ ws, VW ws ∧ l = trieW ws ∧ isTrieW l = true ∧ okWord w ∧ Ev (fun k => impl_areKept.f k l w) true := by
  have h := kept_ev l w
  rcases trie_cases l with hf | ⟨ws, hv, rfl, ht⟩
  · rw [hf] at h; exact .inl ⟨hf, h⟩
  · by_cases hw : okWord w
    · rw [ht, decide_eq_true hw] at h; exact .inr (.inr ⟨ws, hv, rfl, ht, hw, h⟩)
    · rw [ht, decide_eq_false hw] at h; exact .inr (.inl ⟨ht, hw, h⟩)
theorem specW_t {w : ByteArray} (h : okWord w) : Ev (fun k => spec_l2Word.f k w) true := by have := word_ev w; rwa [decide_eq_true h] at this
theorem specW_f {w : ByteArray} (h : ¬ okWord w) : Ev (fun k => spec_l2Word.f k w) false := by have := word_ev w; rwa [decide_eq_false h] at this
end Go.Proofs.YtefcbnlljpdjnaaDoor.Q
namespace Go.Proofs.YtefcbnlljpdjnaaDoor.Q
open Go.RowKit Go.Proofs.YtefcbnlljpdjnaaDoorW.PrintWords Go.Proofs.YtefcbnlljpdjnaaDoorW.PrintLast Go.Proofs.YtefcbnlljpdjnaaDoorW.PrintMore
attribute [local go_sem] run_field_25 run_field_26 run_field_35 run_field_36 isSome_setCell max2_int min2_int max_two min_two max_three min_three max_four min_four   -- for this text's walks alone
set_option linter.unusedVariables false
set_option linter.unusedSimpArgs false
def spec_DropWord.j0 : Nat → ByteArray → Bool → List (S76) → Option ((List (S76)) × Bool)
  | 0, _, _, _ => none
  | k + 1, x1, x15, x538000 => if x15 = true then (some (([] : List (S76)), false)) else ((spec_l2Words.f k x538000).bind fun t541 => ((spec_l2Place.f k t541 x1).bind fun t544 => (if t544 < 0 then (some (([] : List (S76)), false)) else (if 0 ≤ t544 then (if t544 ≤ (t541.length : Int) then ((spec_l2Own.f (t541.take (t544 : Int).toNat)).bind fun t549 => (if 0 ≤ (wrap64 (t544 + 1)) then (if (wrap64 (t544 + 1)) ≤ (t541.length : Int) then ((some (t541.drop ((wrap64 (t544 + 1)) : Int).toNat : List ByteArray)).bind fun y552 => (if t549.length + y552.length < 8796093022208 then ((spec_l2Of.f k (t549 ++ y552)).bind fun t559 => (some (t559, true))) else (none))) else (none)) else (none))) else (none)) else (none)))))
def spec_DropWord.f (k : Nat) (l0_0 : List (S76)) (a1 : ByteArray) : Option ((List (S76)) × Bool) := (spec_l2Trie.f k l0_0).bind fun t539 => (if t539 = true then ((spec_l2Word.f k a1).bind fun t540 => (spec_DropWord.j0 k a1 (!t540) l0_0)) else (spec_DropWord.j0 k a1 true l0_0))
def spec_DropWord.T7 : Bool × List (List Nat × List Nat) := (true, [([], []), ([], []), ([0, 1], [0, 1]), ([2], [2]), ([], []), ([], []), ([5], [5]), ([4, 6], [4, 6]), ([3, 7, 3], [3, 7]), ([8, 8], [8]), ([9, 9, 0, 1, 2, 3, 4, 5, 6, 7, 8, 9], [9]), ([10, 0, 1, 2, 3, 4, 5, 6, 7, 8, 9, 10], [])])
def spec_DropWord.B7 : List Nat := [0, 0, 3, 7, 0, 0, 32, 112, 255, 511, 1023, 2047]
theorem spec_DropWord.tab7 : rtab .any (opsOf Tryd.f29 7) = spec_DropWord.T7 := by kernel_rfl
theorem spec_DropWord.bits7 : waitsOk spec_DropWord.T7.2 spec_DropWord.B7 = true := by kernel_rfl
set_option maxHeartbeats 8000000 in
set_option maxRecDepth 100000 in
theorem spec_DropWord.calls (k : Nat) (A0_0 : Option Addr) (c0_0 : Nat) (l0_0 : List (S76)) (a1 : ByteArray) (r1 : List (S76)) (r2 : Bool) (w : World) (hr0_0 : Kd.C k76 w A0_0 l0_0.length l0_0) (hc0_0 : l0_0.length ≤ c0_0) (h : spec_DropWord.f k l0_0 a1 = some (r1, r2)) :
    Calls Tryd.prog 29 #[.agg #[.slice A0_0 l0_0.length c0_0], .string a1] w fun e w' => ∃ v0_ : Value, e = .returned (.tuple #[.agg #[v0_], .bool r2]) ∧ Kd.R k76 76 w' w.heap.size (fun _ => True) v0_ r1 ∧ Below w.heap.size w w' := by
  have hu26 := Tryd.underlying26
  have HR0_0 := Aside0.mk hr0_0
  have HC0_0 := Aside0.mk hc0_0
  clear hr0_0 hc0_0
  have HB := Aside0.mk (Below.refl w.heap.size w)
  have H : ((spec_l2Trie.f k l0_0).bind fun t539 => (if t539 = true then ((spec_l2Word.f k a1).bind fun t540 => (spec_DropWord.j0 k a1 (!t540) l0_0)) else (spec_DropWord.j0 k a1 true l0_0))) = some (r1, r2) := h
  clear h
  have HC3 := Aside0.mk H
  clear H
  go_enter Tryd.func29, Tryd.ntmps29
  go_upto_region 1 with (first | ((with_reducible refine gate_dst (N := 2) rfl ?_); refine box_event ?hg (N := 2) ?hd (cs := #[.slice A0_0 l0_0.length c0_0]) (t := 26) ?hr ?_; (case hd => rfl); (case hg => rfl); (case hr => first | (go_simp; done) | (go_simp; rfl)); intro gb537 hg w4 hbox hb; have n0_ := Aside0.mk (below_step (by repeat (first | (with_reducible first | exact HB.out | apply below_alloc | apply pw_below_drewN | apply below_drew1) | exact HB.out)) hb); have n1_ := Aside0.mk (hbox); have n2_ := Aside0.mk ((by rw [hg]; exact (below_size (by repeat (first | (with_reducible first | exact HB.out | apply below_alloc | apply pw_below_drewN | apply below_drew1) | exact HB.out))) : w.heap.size ≤ gb537)); have n3_ := Aside0.mk ((by rw [hg]; exact (below_size (by repeat (first | (with_reducible first | exact HB.out | apply below_alloc | apply pw_below_drewN | apply below_drew1) | exact HB.out))) : w.heap.size ≤ gb537)); clear HB; have HB := n0_; have BK537 := n1_; have GW537 := n2_; have GE537 := n3_; clear n0_ n1_ n2_ n3_; clear hb hbox hg) | ((with_reducible refine gate_dst (N := 4) rfl ?_); refine box_event ?hg (N := 4) ?hd (cs := #[.slice none 0 0]) (t := 26) ?hr ?_; (case hd => rfl); (case hg => rfl); (case hr => first | (go_simp; done) | (go_simp; rfl)); intro gb538 hg w5 hbox hb; have n0_ := Aside0.mk (blk_below (g := gb537) (o := .cells #[.slice A0_0 l0_0.length c0_0] 26 (0, 0)) (by (with_reducible repeat (first | refine blk_drewN ?_ _ | refine blk_drew ?_ | refine blk_alloc ?_ _)); exact BK537.out) hb); have n1_ := Aside0.mk (below_step (by repeat (first | (with_reducible first | exact HB.out | apply below_alloc | apply pw_below_drewN | apply below_drew1 | refine below_set ?_ GE537.out) | exact HB.out)) hb); have n2_ := Aside0.mk (hbox); have n3_ := Aside0.mk ((by rw [hg]; exact (below_size (by repeat (first | (with_reducible first | exact HB.out | apply below_alloc | apply pw_below_drewN | apply below_drew1 | refine below_set ?_ GE537.out) | exact HB.out))) : w.heap.size ≤ gb538)); have n4_ := Aside0.mk ((by rw [hg]; exact (below_size (by repeat (first | (with_reducible first | exact HB.out | apply below_alloc | apply pw_below_drewN | apply below_drew1 | refine below_set ?_ GE537.out) | exact HB.out))) : w.heap.size ≤ gb538)); have n5_ := Aside0.mk ((by rw [hg]; exact Nat.ne_of_lt (blk_lt (g := gb537) (o := .cells #[.slice A0_0 l0_0.length c0_0] 26 (0, 0)) (by (with_reducible repeat (first | refine blk_drewN ?_ _ | refine blk_drew ?_ | refine blk_alloc ?_ _)); exact BK537.out)) : gb537 ≠ gb538)); have n6_ := Aside0.mk ((by rw [hg]; exact Nat.ne_of_gt (blk_lt (g := gb537) (o := .cells #[.slice A0_0 l0_0.length c0_0] 26 (0, 0)) (by (with_reducible repeat (first | refine blk_drewN ?_ _ | refine blk_drew ?_ | refine blk_alloc ?_ _)); exact BK537.out)) : gb538 ≠ gb537)); clear BK537; clear HB; have BK537 := n0_; have HB := n1_; have BK538 := n2_; have GW538 := n3_; have GE538 := n4_; have NB537_538 := n5_; have NB538_537 := n6_; clear n0_ n1_ n2_ n3_ n4_ n5_ n6_; clear hb hbox hg))
  (try simp only [Act.put, List.setIfInBounds_toArray, List.set_cons_zero, List.set_cons_succ])
  go_cut [15] (fun v15 wc => ∃ (kq : Nat) (x15_2 : Bool), v15 = .bool x15_2 ∧ Aside0 (spec_DropWord.j0 kq a1 x15_2 l0_0 = some (r1, r2)) ∧ Aside0 (kq ≤ k) ∧ Aside0 (wc.heap[gb537]? = some (.cells #[(.slice A0_0 l0_0.length c0_0)] 26 (0, 0))) ∧ Aside0 (wc.heap[gb538]? = some (.cells #[(.slice none 0 0)] 26 (0, 0))) ∧ Aside0 (Below w.heap.size w wc))
  case first =>
    have H := HC3.out
    clear HC3
    replace H := Option.bind_eq_some_iff.mp H
    obtain ⟨t539, A60, H⟩ := H
    replace H : (if t539 = true then ((spec_l2Word.f k a1).bind fun t540 => (spec_DropWord.j0 k a1 (!t540) l0_0)) else (spec_DropWord.j0 k a1 true l0_0)) = some (r1, r2) := H
    have A6 := Aside0.mk A60
    clear A60
    by_cases c7 : t539 = true
    · subst c7
      have H1 : ((spec_l2Word.f k a1).bind fun t540 => (spec_DropWord.j0 k a1 (!t540) l0_0)) = some (r1, r2) := by rw [if_pos rfl] at H; exact H
      clear H
      have H := H1
      clear H1
      replace H := Option.bind_eq_some_iff.mp H
      obtain ⟨t540, A80, H⟩ := H
      replace H : (spec_DropWord.j0 k a1 (!t540) l0_0) = some (r1, r2) := H
      have A8 := Aside0.mk A80
      clear A80
      have H' := Aside0.mk H
      clear H
      have hnb9 := NB537_538.out
      have hnc9 := NB538_537.out
      have hcz10_0 : w5.cell? ⟨gb537, 0, none⟩ = some (.slice A0_0 l0_0.length c0_0) := (blk_cell BK537.out 0).trans rfl
      have hfz10_0 := blk_frozen BK537.out 0
      go_wp2_with (first | ((with_reducible refine gate_callee (f := 50) rfl ?_); refine goesL_ (some 9) rfl rfl Tryd.func50 (by kernel_rfl) rfl #[.agg #[.slice A0_0 l0_0.length c0_0]] rfl (by (try simp only [List.map_toArray, List.map_cons, List.map_nil]); first | done | rfl | (simp only [List.length_drop, List.length_take]; rfl)) ?_; (with_reducible refine (spec_l2Trie.calls k _ _ l0_0 true _ ?side1 ?side2 A6.out).mono ?_); (case side1 => repeat (first | exact (Kd.C_below HR0_0.out HB.out) | (with_reducible refine Kd.C_alloc ?_ _) | (with_reducible refine Kd.C_drewN ?_ _) | (with_reducible refine Kd.C_drew ?_))); (case side2 => exact HC0_0.out); rintro e w11 ⟨rfl, hb⟩; refine ⟨_, rfl, ?_⟩; have n0_ := Aside0.mk (blk_below (g := gb537) (o := .cells #[.slice A0_0 l0_0.length c0_0] 26 (0, 0)) (by (with_reducible repeat (first | refine blk_drewN ?_ _ | refine blk_drew ?_ | refine blk_alloc ?_ _)); exact BK537.out) hb); have n1_ := Aside0.mk (blk_below (g := gb538) (o := .cells #[.slice none 0 0] 26 (0, 0)) (by (with_reducible repeat (first | refine blk_drewN ?_ _ | refine blk_drew ?_ | refine blk_alloc ?_ _)); exact BK538.out) hb); have n2_ := Aside0.mk (below_step (by repeat (first | (with_reducible first | exact HB.out | apply below_alloc | apply pw_below_drewN | apply below_drew1 | refine below_set ?_ GE537.out | refine below_set ?_ GE538.out) | exact HB.out)) hb); clear BK537; clear BK538; clear HB; have BK537 := n0_; have BK538 := n1_; have HB := n2_; clear n0_ n1_ n2_; (try clear hb); (try clear hb2); (try clear hk); (try clear hi)) | (go_at_call 51; (with_reducible refine (spec_l2Word.calls k a1 t540 _ A8.out).mono ?_); rintro e w' ⟨rfl, ⟨nd, rfl⟩⟩))
      go_meet
      case rel => exact ⟨_, (!t540), (by first | rfl | (simp; done) | (simp [*]; done)), H', ⟨by first | omega | exact Nat.le_refl _⟩, ⟨by (with_reducible repeat (first | refine blk_drewN ?_ _ | refine blk_drew ?_ | refine blk_alloc ?_ _)); exact BK537.out⟩, ⟨by (with_reducible repeat (first | refine blk_drewN ?_ _ | refine blk_drew ?_ | refine blk_alloc ?_ _)); exact BK538.out⟩, ⟨by repeat (first | (with_reducible first | exact HB.out | apply below_alloc | apply pw_below_drewN | apply below_drew1 | refine below_set ?_ GE537.out | refine below_set ?_ GE538.out) | exact HB.out)⟩⟩
    · replace c7 := Bool.eq_false_iff.mpr c7
      subst c7
      have H1 : (spec_DropWord.j0 k a1 true l0_0) = some (r1, r2) := by rw [if_neg (show ¬ (false = true) by decide)] at H; exact H
      clear H
      have H := H1
      clear H1
      have H' := Aside0.mk H
      clear H
      have hnb12 := NB537_538.out
      have hnc12 := NB538_537.out
      have hcz13_0 : w5.cell? ⟨gb537, 0, none⟩ = some (.slice A0_0 l0_0.length c0_0) := (blk_cell BK537.out 0).trans rfl
      have hfz13_0 := blk_frozen BK537.out 0
      go_wp2_with (first | ((with_reducible refine gate_callee (f := 50) rfl ?_); refine goesL_ (some 9) rfl rfl Tryd.func50 (by kernel_rfl) rfl #[.agg #[.slice A0_0 l0_0.length c0_0]] rfl (by (try simp only [List.map_toArray, List.map_cons, List.map_nil]); first | done | rfl | (simp only [List.length_drop, List.length_take]; rfl)) ?_; (with_reducible refine (spec_l2Trie.calls k _ _ l0_0 false _ ?side1 ?side2 A6.out).mono ?_); (case side1 => repeat (first | exact (Kd.C_below HR0_0.out HB.out) | (with_reducible refine Kd.C_alloc ?_ _) | (with_reducible refine Kd.C_drewN ?_ _) | (with_reducible refine Kd.C_drew ?_))); (case side2 => exact HC0_0.out); rintro e w14 ⟨rfl, hb⟩; refine ⟨_, rfl, ?_⟩; have n0_ := Aside0.mk (blk_below (g := gb537) (o := .cells #[.slice A0_0 l0_0.length c0_0] 26 (0, 0)) (by (with_reducible repeat (first | refine blk_drewN ?_ _ | refine blk_drew ?_ | refine blk_alloc ?_ _)); exact BK537.out) hb); have n1_ := Aside0.mk (blk_below (g := gb538) (o := .cells #[.slice none 0 0] 26 (0, 0)) (by (with_reducible repeat (first | refine blk_drewN ?_ _ | refine blk_drew ?_ | refine blk_alloc ?_ _)); exact BK538.out) hb); have n2_ := Aside0.mk (below_step (by repeat (first | (with_reducible first | exact HB.out | apply below_alloc | apply pw_below_drewN | apply below_drew1 | refine below_set ?_ GE537.out | refine below_set ?_ GE538.out) | exact HB.out)) hb); clear BK537; clear BK538; clear HB; have BK537 := n0_; have BK538 := n1_; have HB := n2_; clear n0_ n1_ n2_; (try clear hb); (try clear hb2); (try clear hk); (try clear hi)))
      go_meet
      case rel => exact ⟨_, (true), (by first | rfl | (simp; done) | (simp [*]; done)), H', ⟨by first | omega | exact Nat.le_refl _⟩, ⟨by (with_reducible repeat (first | refine blk_drewN ?_ _ | refine blk_drew ?_ | refine blk_alloc ?_ _)); exact BK537.out⟩, ⟨by (with_reducible repeat (first | refine blk_drewN ?_ _ | refine blk_drew ?_ | refine blk_alloc ?_ _)); exact BK538.out⟩, ⟨by repeat (first | (with_reducible first | exact HB.out | apply below_alloc | apply pw_below_drewN | apply below_drew1 | refine below_set ?_ GE537.out | refine below_set ?_ GE538.out) | exact HB.out)⟩⟩
  case rest =>
    clear HC3
    try clear c1
    try clear c2
    try clear p2
    try clear c5
    try clear c7
    try clear c9
    try clear c12
    try clear hcz10_0
    try clear hcz13_0
    try clear hfz10_0
    try clear hfz13_0
    obtain ⟨kq, x15_2, rfl, HA, HJ2, BK537, BK538, HB⟩ := hcut
    cases kq with
    | zero => exact absurd HA.out (by simp [spec_DropWord.j0])
    | succ kj2 =>
      have H := HA.out
      clear HA
      simp only [spec_DropWord.j0] at H
      by_cases c15 : x15_2 = true
      · subst c15
        have H1 : (some (([] : List (S76)), false)) = some (r1, r2) := by rw [if_pos rfl] at H; exact H
        clear H
        have H := H1
        clear H1
        simp only [Option.some.injEq, Prod.mk.injEq] at H
        obtain ⟨rfl, rfl⟩ := H
        have hnb16 := NB538_537.out
        have hnc16 := NB537_538.out
        have hcz17_0 : wc.cell? ⟨gb538, 0, none⟩ = some (.slice none 0 0) := (blk_cell BK538.out 0).trans rfl
        have hfz17_0 := blk_frozen BK538.out 0
        go_wp2
        refine bodyPost_ret (results_ct rfl _ _ gb538 26 #[.slice none 0 0] (0, 0) _ rfl (by (with_reducible repeat (first | refine blk_drewN ?_ _ | refine blk_drew ?_ | refine blk_alloc ?_ _)); refine blk_put (cs := #[.slice none 0 0]) ?_ 0 _ rfl; (with_reducible repeat (first | refine blk_drewN ?_ _ | refine blk_drew ?_ | refine blk_alloc ?_ _)); exact BK538.out) Tryd.underlying26 rfl (by kernel_rfl)) rfl ?_
        exact ⟨_, by first | rfl | (simp [errW_none, errW_some] <;> rfl) | (simp [*, errW_none, errW_some] <;> rfl), by first | exact Kd.R_nil _ _ _ _ _ | exact Kd.N_nil _ _ _ _ _ | exact Kd.V_nil _ _ _ _ _ | exact Kd.Q_nil _ _ _ _ _ | exact Kd.S_nil _ _ _ _ _, by repeat (first | (with_reducible first | exact HB.out | apply below_alloc | apply pw_below_drewN | apply below_drew1 | refine below_set ?_ GE537.out | refine below_set ?_ GE538.out) | exact HB.out)⟩
      · replace c15 := Bool.eq_false_iff.mpr c15
        subst c15
        have H1 : ((spec_l2Words.f kj2 l0_0).bind fun t541 => ((spec_l2Place.f kj2 t541 a1).bind fun t544 => (if t544 < 0 then (some (([] : List (S76)), false)) else (if 0 ≤ t544 then (if t544 ≤ (t541.length : Int) then ((spec_l2Own.f (t541.take (t544 : Int).toNat)).bind fun t549 => (if 0 ≤ (wrap64 (t544 + 1)) then (if (wrap64 (t544 + 1)) ≤ (t541.length : Int) then ((some (t541.drop ((wrap64 (t544 + 1)) : Int).toNat : List ByteArray)).bind fun y552 => (if t549.length + y552.length < 8796093022208 then ((spec_l2Of.f kj2 (t549 ++ y552)).bind fun t559 => (some (t559, true))) else (none))) else (none)) else (none))) else (none)) else (none))))) = some (r1, r2) := by rw [if_neg (show ¬ (false = true) by decide)] at H; exact H
        clear H
        have H := H1
        clear H1
        replace H := Option.bind_eq_some_iff.mp H
        obtain ⟨t541, A180, H⟩ := H
        replace H : ((spec_l2Place.f kj2 t541 a1).bind fun t544 => (if t544 < 0 then (some (([] : List (S76)), false)) else (if 0 ≤ t544 then (if t544 ≤ (t541.length : Int) then ((spec_l2Own.f (t541.take (t544 : Int).toNat)).bind fun t549 => (if 0 ≤ (wrap64 (t544 + 1)) then (if (wrap64 (t544 + 1)) ≤ (t541.length : Int) then ((some (t541.drop ((wrap64 (t544 + 1)) : Int).toNat : List ByteArray)).bind fun y552 => (if t549.length + y552.length < 8796093022208 then ((spec_l2Of.f kj2 (t549 ++ y552)).bind fun t559 => (some (t559, true))) else (none))) else (none)) else (none))) else (none)) else (none)))) = some (r1, r2) := H
        have A18 := Aside0.mk A180
        clear A180
        replace H := Option.bind_eq_some_iff.mp H
        obtain ⟨t544, A190, H⟩ := H
        replace H : (if t544 < 0 then (some (([] : List (S76)), false)) else (if 0 ≤ t544 then (if t544 ≤ (t541.length : Int) then ((spec_l2Own.f (t541.take (t544 : Int).toNat)).bind fun t549 => (if 0 ≤ (wrap64 (t544 + 1)) then (if (wrap64 (t544 + 1)) ≤ (t541.length : Int) then ((some (t541.drop ((wrap64 (t544 + 1)) : Int).toNat : List ByteArray)).bind fun y552 => (if t549.length + y552.length < 8796093022208 then ((spec_l2Of.f kj2 (t549 ++ y552)).bind fun t559 => (some (t559, true))) else (none))) else (none)) else (none))) else (none)) else (none))) = some (r1, r2) := H
        have A19 := Aside0.mk A190
        clear A190
        by_cases c20 : t544 < 0
        · rw [if_pos c20] at H
          have c20b0 : decide (t544 < 0) = true := decide_eq_true c20
          clear c20
          simp only [Option.some.injEq, Prod.mk.injEq] at H
          obtain ⟨rfl, rfl⟩ := H
          have hnb21 := NB537_538.out
          have hnc21 := NB538_537.out
          have hcz22_0 : wc.cell? ⟨gb537, 0, none⟩ = some (.slice A0_0 l0_0.length c0_0) := (blk_cell BK537.out 0).trans rfl
          have hfz22_0 := blk_frozen BK537.out 0
          go_wp2_with (first | ((with_reducible refine gate_callee (f := 52) rfl ?_); refine goesL_ (some 18) rfl rfl Tryd.func52 (by kernel_rfl) rfl #[.agg #[.slice A0_0 l0_0.length c0_0]] rfl (by (try simp only [List.map_toArray, List.map_cons, List.map_nil]); first | done | rfl | (simp only [List.length_drop, List.length_take]; rfl)) ?_; (with_reducible refine (spec_l2Words.calls kj2 _ _ l0_0 t541 _ ?side1 ?side2 A18.out).mono ?_); (case side1 => repeat (first | exact (Kd.C_below HR0_0.out HB.out) | (with_reducible refine Kd.C_alloc ?_ _) | (with_reducible refine Kd.C_drewN ?_ _) | (with_reducible refine Kd.C_drew ?_))); (case side2 => exact HC0_0.out); rintro e w23 ⟨v542, rfl, ho0, hb⟩; refine ⟨_, rfl, ?_⟩; have n0_ := Aside0.mk (Kd.R_lower ho0 (below_size (by repeat (first | (with_reducible first | exact HB.out | apply below_alloc | apply pw_below_drewN | apply below_drew1 | refine below_set ?_ GE537.out | refine below_set ?_ GE538.out) | exact HB.out)))); have n1_ := Aside0.mk (blk_below (g := gb537) (o := .cells #[.slice A0_0 l0_0.length c0_0] 26 (0, 0)) (by (with_reducible repeat (first | refine blk_drewN ?_ _ | refine blk_drew ?_ | refine blk_alloc ?_ _)); exact BK537.out) hb); have n2_ := Aside0.mk (blk_below (g := gb538) (o := .cells #[.slice none 0 0] 26 (0, 0)) (by (with_reducible repeat (first | refine blk_drewN ?_ _ | refine blk_drew ?_ | refine blk_alloc ?_ _)); exact BK538.out) hb); have n3_ := Aside0.mk (below_step (by repeat (first | (with_reducible first | exact HB.out | apply below_alloc | apply pw_below_drewN | apply below_drew1 | refine below_set ?_ GE537.out | refine below_set ?_ GE538.out) | exact HB.out)) hb); clear BK537; clear BK538; clear HB; have HO543 := n0_; have BK537 := n1_; have BK538 := n2_; have HB := n3_; clear n0_ n1_ n2_ n3_; (try clear hb); (try clear hb2); (try clear hk); (try clear hi); (try clear ho0); obtain ⟨Ao24, co24, eo24⟩ := Kd.R_slice HO543.out; subst eo24) | ((with_reducible refine gate_callee (f := 61) rfl ?_); refine goesL_ (some 21) rfl rfl Tryd.func61 (by kernel_rfl) rfl #[.slice Ao24 t541.length co24, .string a1] rfl (by (try simp only [List.map_toArray, List.map_cons, List.map_nil]); first | done | rfl | (simp only [List.length_drop, List.length_take]; rfl)) ?_; (with_reducible refine (spec_l2Place.calls kj2 _ _ t541 a1 t544 _ ?side1 ?side2 A19.out).mono ?_); (case side1 => repeat (first | exact (Kd.R_reads' HO543.out).2.2 | (with_reducible refine Kd.C_alloc ?_ _) | (with_reducible refine Kd.C_drewN ?_ _) | (with_reducible refine Kd.C_drew ?_))); (case side2 => exact (Kd.R_reads' HO543.out).2.1); rintro e w' ⟨rfl, ⟨nd, rfl⟩⟩; refine ⟨_, rfl, ?_⟩; (try (rw [drewN_self w23]; generalize hq_ : World.drewN w23 _ = w23; have n0_ : Aside0 (Kd.R Kd.string 9 w23 w.heap.size (fun _ => True) (.slice Ao24 t541.length co24) t541) := ⟨by rw [← hq_]; exact (by (with_reducible repeat (first | apply Kd.R_alloc | apply Kd.R_drewN | apply Kd.R_drew)); exact HO543.out)⟩; have n1_ : Aside0 (w23.heap[gb537]? = some (.cells #[.slice A0_0 l0_0.length c0_0] 26 (0, 0))) := ⟨by rw [← hq_]; exact (by (with_reducible repeat (first | refine blk_drewN ?_ _ | refine blk_drew ?_ | refine blk_alloc ?_ _)); exact BK537.out)⟩; have n2_ : Aside0 (w23.heap[gb538]? = some (.cells #[.slice none 0 0] 26 (0, 0))) := ⟨by rw [← hq_]; exact (by (with_reducible repeat (first | refine blk_drewN ?_ _ | refine blk_drew ?_ | refine blk_alloc ?_ _)); exact BK538.out)⟩; have n3_ : Aside0 (Below w.heap.size w w23) := ⟨by rw [← hq_]; exact (by repeat (first | (with_reducible first | exact HB.out | apply below_alloc | apply pw_below_drewN | apply below_drew1 | refine below_set ?_ GE537.out | refine below_set ?_ GE538.out) | exact HB.out))⟩; clear HO543 BK537 BK538 HB hq_; have HO543 := n0_; have BK537 := n1_; have BK538 := n2_; have HB := n3_; clear n0_ n1_ n2_ n3_)); have hcz25_0 : w23.cell? ⟨gb538, 0, none⟩ = some (.slice none 0 0) := (blk_cell BK538.out 0).trans rfl; have hfz25_0 := blk_frozen BK538.out 0))
          refine bodyPost_ret (results_ct rfl _ _ gb538 26 #[.slice none 0 0] (0, 0) _ rfl (by (with_reducible repeat (first | refine blk_drewN ?_ _ | refine blk_drew ?_ | refine blk_alloc ?_ _)); refine blk_put (cs := #[.slice none 0 0]) ?_ 0 _ rfl; (with_reducible repeat (first | refine blk_drewN ?_ _ | refine blk_drew ?_ | refine blk_alloc ?_ _)); exact BK538.out) Tryd.underlying26 rfl (by kernel_rfl)) rfl ?_
          exact ⟨_, by first | rfl | (simp [errW_none, errW_some] <;> rfl) | (simp [*, errW_none, errW_some] <;> rfl), by first | exact Kd.R_nil _ _ _ _ _ | exact Kd.N_nil _ _ _ _ _ | exact Kd.V_nil _ _ _ _ _ | exact Kd.Q_nil _ _ _ _ _ | exact Kd.S_nil _ _ _ _ _, by repeat (first | (with_reducible first | exact HB.out | apply below_alloc | apply pw_below_drewN | apply below_drew1 | refine below_set ?_ GE537.out | refine below_set ?_ GE538.out) | exact HB.out)⟩
        · rw [if_neg c20] at H
          have c20b0 : decide (t544 < 0) = false := decide_eq_false c20
          clear c20
          by_cases c26 : 0 ≤ t544
          · rw [if_pos c26] at H
            have c26b0 := eq_true c26
            have c26b1 : decide (0 ≤ t544) = true := decide_eq_true c26
            clear c26
            by_cases c27 : t544 ≤ (t541.length : Int)
            · rw [if_pos c27] at H
              have c27b0 := eq_true c27
              have c27b1 : decide (t544 ≤ (t541.length : Int)) = true := decide_eq_true c27
              clear c27
              obtain ⟨y545, hy545⟩ : ∃ y_ : List ByteArray, y_ = (t541.take (t544 : Int).toNat) := ⟨_, rfl⟩
              replace H : ((spec_l2Own.f y545).bind fun t549 => (if 0 ≤ (wrap64 (t544 + 1)) then (if (wrap64 (t544 + 1)) ≤ (t541.length : Int) then ((some (t541.drop ((wrap64 (t544 + 1)) : Int).toNat : List ByteArray)).bind fun y552 => (if t549.length + y552.length < 8796093022208 then ((spec_l2Of.f kj2 (t549 ++ y552)).bind fun t559 => (some (t559, true))) else (none))) else (none)) else (none))) = some (r1, r2) := by first | (rw [hy545]; with_reducible exact H) | (have H2_ := (Option.bind_some _ _).symm.trans H; rw [hy545]; with_reducible exact H2_) | (have H2_ := (Option.bind_some _ _).symm.trans H; with_reducible exact H2_) | with_reducible exact H | (rw [hy545]; exact H) | exact H
              have Ny545 := Aside0.mk hy545
              clear hy545
              replace H := Option.bind_eq_some_iff.mp H
              obtain ⟨t549, A280, H⟩ := H
              replace H : (if 0 ≤ (wrap64 (t544 + 1)) then (if (wrap64 (t544 + 1)) ≤ (t541.length : Int) then ((some (t541.drop ((wrap64 (t544 + 1)) : Int).toNat : List ByteArray)).bind fun y552 => (if t549.length + y552.length < 8796093022208 then ((spec_l2Of.f kj2 (t549 ++ y552)).bind fun t559 => (some (t559, true))) else (none))) else (none)) else (none)) = some (r1, r2) := H
              have A28 := Aside0.mk A280
              clear A280
              obtain ⟨ji29, hji29⟩ : ∃ j_ : Int, (wrap64 (t544 + 1)) = j_ := ⟨_, rfl⟩
              replace H : (if 0 ≤ (ji29) then (if (ji29) ≤ (t541.length : Int) then ((some (t541.drop ((ji29) : Int).toNat : List ByteArray)).bind fun y552 => (if t549.length + y552.length < 8796093022208 then ((spec_l2Of.f kj2 (t549 ++ y552)).bind fun t559 => (some (t559, true))) else (none))) else (none)) else (none)) = some (r1, r2) := by first | (rw [hji29] at H; exact H) | (simp only [hji29] at H ⊢; exact H)
              (try rw [hji29] at A18)
              (try rw [hji29] at A19)
              (try rw [hji29] at A28)
              have hji29w : (IntKind.i64.wrap (t544 + 1)) = ji29 := (i64_w _).trans hji29
              by_cases c30 : 0 ≤ (ji29)
              · rw [if_pos c30] at H
                have c30b0 := eq_true c30
                have c30b1 : decide (0 ≤ (ji29)) = true := decide_eq_true c30
                clear c30
                by_cases c31 : (ji29) ≤ (t541.length : Int)
                · rw [if_pos c31] at H
                  have c31b0 := eq_true c31
                  have c31b1 : decide ((ji29) ≤ (t541.length : Int)) = true := decide_eq_true c31
                  clear c31
                  obtain ⟨y552, hy552⟩ : ∃ y_ : List ByteArray, y_ = (t541.drop ((ji29) : Int).toNat) := ⟨_, rfl⟩
                  replace H : (if t549.length + y552.length < 8796093022208 then ((spec_l2Of.f kj2 (t549 ++ y552)).bind fun t559 => (some (t559, true))) else (none)) = some (r1, r2) := by first | (rw [hy552]; with_reducible exact H) | (have H2_ := (Option.bind_some _ _).symm.trans H; rw [hy552]; with_reducible exact H2_) | (have H2_ := (Option.bind_some _ _).symm.trans H; with_reducible exact H2_) | with_reducible exact H | (rw [hy552]; exact H) | exact H
                  have Ny552 := Aside0.mk hy552
                  clear hy552
                  by_cases c32 : t549.length + y552.length < 8796093022208
                  · rw [if_pos c32] at H
                    have LMc32 := Aside0.mk c32
                    clear c32
                    obtain ⟨y556, hy556⟩ : ∃ y_ : List ByteArray, y_ = (t549 ++ y552) := ⟨_, rfl⟩
                    replace H : ((spec_l2Of.f kj2 y556).bind fun t559 => (some (t559, true))) = some (r1, r2) := by first | (rw [hy556]; with_reducible exact H) | (have H2_ := (Option.bind_some _ _).symm.trans H; rw [hy556]; with_reducible exact H2_) | (have H2_ := (Option.bind_some _ _).symm.trans H; with_reducible exact H2_) | with_reducible exact H | (rw [hy556]; exact H) | exact H
                    have Ny556 := Aside0.mk hy556
                    clear hy556
                    replace H := Option.bind_eq_some_iff.mp H
                    obtain ⟨t559, A330, H⟩ := H
                    replace H : (some (t559, true)) = some (r1, r2) := H
                    have A33 := Aside0.mk A330
                    clear A330
                    simp only [Option.some.injEq, Prod.mk.injEq] at H
                    obtain ⟨rfl, rfl⟩ := H
                    have hnb34 := NB537_538.out
                    have hnc34 := NB538_537.out
                    have hcz35_0 : wc.cell? ⟨gb537, 0, none⟩ = some (.slice A0_0 l0_0.length c0_0) := (blk_cell BK537.out 0).trans rfl
                    have hfz35_0 := blk_frozen BK537.out 0
                    try go_wp2_with (first | ((with_reducible refine gate_callee (f := 52) rfl ?_); refine goesL_ (some 18) rfl rfl Tryd.func52 (by kernel_rfl) rfl #[.agg #[.slice A0_0 l0_0.length c0_0]] rfl (by (try simp only [List.map_toArray, List.map_cons, List.map_nil]); first | done | rfl | (simp only [List.length_drop, List.length_take]; rfl)) ?_; (with_reducible refine (spec_l2Words.calls kj2 _ _ l0_0 t541 _ ?side1 ?side2 A18.out).mono ?_); (case side1 => repeat (first | exact (Kd.C_below HR0_0.out HB.out) | (with_reducible refine Kd.C_alloc ?_ _) | (with_reducible refine Kd.C_drewN ?_ _) | (with_reducible refine Kd.C_drew ?_))); (case side2 => exact HC0_0.out); rintro e w36 ⟨v542, rfl, ho0, hb⟩; refine ⟨_, rfl, ?_⟩; have n0_ := Aside0.mk (Kd.R_lower ho0 (below_size (by repeat (first | (with_reducible first | exact HB.out | apply below_alloc | apply pw_below_drewN | apply below_drew1 | refine below_set ?_ GE537.out | refine below_set ?_ GE538.out) | exact HB.out)))); have n1_ := Aside0.mk (blk_below (g := gb537) (o := .cells #[.slice A0_0 l0_0.length c0_0] 26 (0, 0)) (by (with_reducible repeat (first | refine blk_drewN ?_ _ | refine blk_drew ?_ | refine blk_alloc ?_ _)); exact BK537.out) hb); have n2_ := Aside0.mk (blk_below (g := gb538) (o := .cells #[.slice none 0 0] 26 (0, 0)) (by (with_reducible repeat (first | refine blk_drewN ?_ _ | refine blk_drew ?_ | refine blk_alloc ?_ _)); exact BK538.out) hb); have n3_ := Aside0.mk (below_step (by repeat (first | (with_reducible first | exact HB.out | apply below_alloc | apply pw_below_drewN | apply below_drew1 | refine below_set ?_ GE537.out | refine below_set ?_ GE538.out) | exact HB.out)) hb); clear BK537; clear BK538; clear HB; have HO543 := n0_; have BK537 := n1_; have BK538 := n2_; have HB := n3_; clear n0_ n1_ n2_ n3_; (try clear hb); (try clear hb2); (try clear hk); (try clear hi); (try clear ho0); obtain ⟨Ao37, co37, eo37⟩ := Kd.R_slice HO543.out; subst eo37) | ((with_reducible refine gate_callee (f := 61) rfl ?_); refine goesL_ (some 21) rfl rfl Tryd.func61 (by kernel_rfl) rfl #[.slice Ao37 t541.length co37, .string a1] rfl (by (try simp only [List.map_toArray, List.map_cons, List.map_nil]); first | done | rfl | (simp only [List.length_drop, List.length_take]; rfl)) ?_; (with_reducible refine (spec_l2Place.calls kj2 _ _ t541 a1 t544 _ ?side1 ?side2 A19.out).mono ?_); (case side1 => repeat (first | exact (Kd.R_reads' HO543.out).2.2 | (with_reducible refine Kd.C_alloc ?_ _) | (with_reducible refine Kd.C_drewN ?_ _) | (with_reducible refine Kd.C_drew ?_))); (case side2 => exact (Kd.R_reads' HO543.out).2.1); rintro e w' ⟨rfl, ⟨nd, rfl⟩⟩; refine ⟨_, rfl, ?_⟩; (try (rw [drewN_self w36]; generalize hq_ : World.drewN w36 _ = w36; have n0_ : Aside0 (Kd.R Kd.string 9 w36 w.heap.size (fun _ => True) (.slice Ao37 t541.length co37) t541) := ⟨by rw [← hq_]; exact (by (with_reducible repeat (first | apply Kd.R_alloc | apply Kd.R_drewN | apply Kd.R_drew)); exact HO543.out)⟩; have n1_ : Aside0 (w36.heap[gb537]? = some (.cells #[.slice A0_0 l0_0.length c0_0] 26 (0, 0))) := ⟨by rw [← hq_]; exact (by (with_reducible repeat (first | refine blk_drewN ?_ _ | refine blk_drew ?_ | refine blk_alloc ?_ _)); exact BK537.out)⟩; have n2_ : Aside0 (w36.heap[gb538]? = some (.cells #[.slice none 0 0] 26 (0, 0))) := ⟨by rw [← hq_]; exact (by (with_reducible repeat (first | refine blk_drewN ?_ _ | refine blk_drew ?_ | refine blk_alloc ?_ _)); exact BK538.out)⟩; have n3_ : Aside0 (Below w.heap.size w w36) := ⟨by rw [← hq_]; exact (by repeat (first | (with_reducible first | exact HB.out | apply below_alloc | apply pw_below_drewN | apply below_drew1 | refine below_set ?_ GE537.out | refine below_set ?_ GE538.out) | exact HB.out))⟩; clear HO543 BK537 BK538 HB hq_; have HO543 := n0_; have BK537 := n1_; have BK538 := n2_; have HB := n3_; clear n0_ n1_ n2_ n3_))))
                    have n0_ := Aside0.mk (Kd.R_drew HO543.out)
                    have n1_ := Aside0.mk (blk_drew BK537.out)
                    have n2_ := Aside0.mk (blk_drew BK538.out)
                    have n3_ := Aside0.mk (below_drew1 HB.out)
                    clear HO543
                    clear BK537
                    clear BK538
                    clear HB
                    have HO543 := n0_
                    have BK537 := n1_
                    have BK538 := n2_
                    have HB := n3_
                    clear n0_ n1_ n2_ n3_
                    have q39 : (t544 : Int) ≤ ((t541.length : Int) : Int) := of_decide_eq_true (by first | (with_reducible assumption) | assumption)
                    obtain ⟨i039, hi039, _, hsz39, _⟩ := info_parts info9
                    have hroom39 : t541.length ≤ co37 := (Kd.R_reads' HO543.out).2.1
                    have hC39 : Kd.C Kd.string _ Ao37 t541.length t541 := (Kd.R_reads' HO543.out).2.2
                    have hcut39 := cut_to (P := Tryd.prog) 22 9 .i64 Tryd.underlying22 hi039 Ao37 t541.length co37 t544 (of_decide_eq_true (by first | (with_reducible assumption) | assumption)) q39 hroom39
                    have hr39 := Kd.C_take (m := (t544 : Int).toNat) hC39 (by omega)
                    have hy39 : y545.length = (t544 : Int).toNat := (by rw [Ny545.out, List.length_take]; omega)
                    rw [← Ny545.out] at hr39
                    rw [← hy39] at hcut39
                    have HR548 := Aside0.mk hr39
                    have HC548 := Aside0.mk (show y545.length ≤ co37 from by omega)
                    clear hr39 hC39 hroom39 hi039 hsz39
                    have KY39 := Aside0.mk hy39
                    clear hy39
                    have KL39 := Aside0.mk (show (t544 : Int).toNat ≤ t541.length from by omega)
                    replace q39 := eq_true q39
                    have q40 : ((ji29) : Int) ≤ ((t541.length : Int) : Int) := of_decide_eq_true (by first | (with_reducible assumption) | assumption)
                    obtain ⟨i040, hi040, _, hsz40, _⟩ := info_parts info9
                    have hroom40 : t541.length ≤ co37 := (Kd.R_reads' HO543.out).2.1
                    have hC40 : Kd.C Kd.string _ Ao37 t541.length t541 := (Kd.R_reads' HO543.out).2.2
                    have q040 : (0 : Int) ≤ ((ji29) : Int) := of_decide_eq_true (by first | (with_reducible assumption) | assumption)
                    have hcut40 := cut_from (P := Tryd.prog) 22 9 .i64 Tryd.underlying22 hi040 1 hsz40 Ao37 t541.length co37 (ji29) q040 q40
                    have hr40 := Kd.C_drop (m := ((ji29) : Int).toNat) (c := co37) hC40 (by omega) hroom40
                    obtain ⟨A40, hA40⟩ : ∃ A1, A1 = (if co37 = ((ji29) : Int).toNat then Ao37 else (Ao37 : Option Addr).map (·.add (((ji29) : Int).toNat * 1))) := ⟨_, rfl⟩
                    obtain ⟨c40, hc40⟩ : ∃ c1, c1 = co37 - ((ji29) : Int).toNat := ⟨_, rfl⟩
                    have hy40 : y552.length = t541.length - ((ji29) : Int).toNat := (by rw [Ny552.out, List.length_drop] <;> omega)
                    rw [show (t541).drop ((ji29) : Int).toNat = y552 from Ny552.out.symm] at hr40
                    replace hr40 : Kd.C Kd.string _ A40 y552.length y552 := (by rw [hA40]; exact hr40)
                    rw [← hy40, ← hA40, ← hc40] at hcut40
                    have HR555 := Aside0.mk hr40
                    have HC555 := Aside0.mk (show y552.length ≤ c40 from by rw [hy40, hc40]; exact Nat.sub_le_sub_right hroom40 _)
                    clear hr40 hC40 hroom40 hi040 hsz40 hc40
                    have KY40 := Aside0.mk hy40
                    have KA40 := Aside0.mk hA40
                    clear hy40 hA40
                    have KL40 := Aside0.mk (show ((ji29) : Int).toNat ≤ t541.length from by omega)
                    replace q40 := eq_true q40
                    refine start_ (n := 12) (S := fun w' => True) (ds := []) #[false, false, false, false, false, false, false, false, false, false, false, false] (by kernel_rfl) rfl rfl trivial (fun hHeld => ?_); refine with_tabW spec_DropWord.tab7 spec_DropWord.bits7 (fun HT_ HW_ => ?_)
                    generalize w36.drew = w38 at HO543 BK537 BK538 HB HR548 HR555 hHeld ⊢
                    refine pure_ (i := 0) (N := some 25) (v := ?_) (a' := ?_) #[true, false, false, false, false, false, false, false, false, false, false, false] rfl rfl (any_of HT_.out (by kernel_rfl)) (fun _ _ _ h => h) (Or.inl ⟨by rfl, ?_⟩) ?_ ?_
                    rotate_left
                    · intro w'
                      go_simp
                      with_reducible rfl
                    rotate_left
                    · simp only [Act.put, List.setIfInBounds_toArray, List.set_cons_zero, List.set_cons_succ, i64_w, i32_w]
                      rfl
                    refine pure_ (i := 1) (N := some 26) (v := ?_) (a' := ?_) #[true, true, false, false, false, false, false, false, false, false, false, false] rfl rfl (any_of HT_.out (by kernel_rfl)) (fun _ _ _ h => h) (Or.inl ⟨by rfl, ?_⟩) ?_ ?_
                    rotate_left
                    · intro w'
                      go_simp
                      with_reducible rfl
                    rotate_left
                    · simp only [Act.put, List.setIfInBounds_toArray, List.set_cons_zero, List.set_cons_succ, i64_w, i32_w]
                      rfl
                    refine pure_ (i := 2) (N := some 27) (v := ?_) (a' := ?_) #[true, true, true, false, false, false, false, false, false, false, false, false] rfl rfl (any_of HT_.out (by kernel_rfl)) (fun _ _ _ h => h) (Or.inl ⟨by rfl, ?_⟩) ?_ ?_
                    rotate_left
                    · intro w'
                      go_simp
                      with_reducible rfl
                    rotate_left
                    · simp only [Act.put, List.setIfInBounds_toArray, List.set_cons_zero, List.set_cons_succ, i64_w, i32_w]
                      rfl
                    refine pure_ (i := 4) (N := some 29) (v := ?_) (a' := ?_) #[true, true, true, false, true, false, false, false, false, false, false, false] rfl rfl (any_of HT_.out (by kernel_rfl)) (fun _ _ _ h => h) (Or.inl ⟨by rfl, ?_⟩) ?_ ?_
                    rotate_left
                    · intro w'
                      go_simp
                      with_reducible rfl
                    rotate_left
                    · simp only [Act.put, List.setIfInBounds_toArray, List.set_cons_zero, List.set_cons_succ, i64_w, i32_w]
                      rfl
                    refine pure_ (i := 5) (N := some 30) (v := ?_) (a' := ?_) #[true, true, true, false, true, true, false, false, false, false, false, false] rfl rfl (any_of HT_.out (by kernel_rfl)) (fun _ _ _ h => h) (Or.inl ⟨by rfl, ?_⟩) ?_ ?_
                    rotate_left
                    · intro w'
                      go_simp
                      with_reducible rfl
                    rotate_left
                    · simp only [Act.put, List.setIfInBounds_toArray, List.set_cons_zero, List.set_cons_succ, i64_w, i32_w]
                      rfl
                    refine pure_ (i := 6) (N := some 31) (v := ?_) (a' := ?_) #[true, true, true, false, true, true, true, false, false, false, false, false] rfl rfl (any_of HT_.out (by kernel_rfl)) (fun _ _ _ h => h) (Or.inl ⟨by rfl, ?_⟩) ?_ ?_
                    rotate_left
                    · intro w'
                      go_simp
                      with_reducible rfl
                    rotate_left
                    · simp only [Act.put, List.setIfInBounds_toArray, List.set_cons_zero, List.set_cons_succ, i64_w, i32_w]
                      rfl
                    refine pure_ (i := 7) (N := some 32) (v := ?_) (a' := ?_) #[true, true, true, false, true, true, true, true, false, false, false, false] rfl rfl (any_of HT_.out (by kernel_rfl)) (fun _ _ _ h => h) (Or.inl ⟨by rfl, ?_⟩) ?_ ?_
                    rotate_left
                    · intro w'
                      go_simp
                      with_reducible rfl
                    rotate_left
                    · simp only [Act.put, List.setIfInBounds_toArray, List.set_cons_zero, List.set_cons_succ, i64_w, i32_w]
                      rfl
                    refine one_ (i := 3) (N := some 28) #[true, true, true, true, true, true, true, true, false, false, false, false] rfl rfl (one_of HT_.out (by kernel_rfl)) (by decide) (fun K hK => ?_)
                    refine goes_ Tryd.func62 (by kernel_rfl) rfl #[.slice Ao37 y545.length co37] (by rfl) rfl rfl (by (try simp only [List.map_toArray, List.map_cons, List.map_nil]); first | done | rfl | (simp only [List.length_drop, List.length_take]; rfl)) ?_
                    with_reducible refine (spec_l2Own.calls _ _ y545 t549 _ ?side1 ?side2 A28.out).mono ?_
                    (case side1 => repeat (first | exact (by repeat (first | (with_reducible exact HR548.out) | (with_reducible refine Kd.C_alloc ?_ _) | (with_reducible refine Kd.C_drewN ?_ _) | (with_reducible refine Kd.C_drew ?_) | exact HR548.out)) | (with_reducible refine Kd.C_alloc ?_ _) | (with_reducible refine Kd.C_drewN ?_ _) | (with_reducible refine Kd.C_drew ?_)))
                    (case side2 => exact HC548.out)
                    rintro e w41 ⟨v550, rfl, ho0, hb⟩
                    refine ⟨_, rfl, ?_⟩
                    have n0_ := Aside0.mk (Kd.R_elder' (by (with_reducible repeat (first | apply Kd.R_alloc | apply Kd.R_drewN | apply Kd.R_drew)); exact HO543.out) (Kd.R_base ho0) hb)
                    have n1_ := Aside0.mk (Kd.R_lower (Kd.R_new' ho0 (Kd.R_lt (by (with_reducible repeat (first | apply Kd.R_alloc | apply Kd.R_drewN | apply Kd.R_drew)); exact HO543.out))) (below_size (by repeat (first | (with_reducible first | exact HB.out | apply below_alloc | apply pw_below_drewN | apply below_drew1 | refine below_set ?_ GE537.out | refine below_set ?_ GE538.out) | exact HB.out))))
                    have n2_ := Aside0.mk (blk_below (g := gb537) (o := .cells #[.slice A0_0 l0_0.length c0_0] 26 (0, 0)) (by (with_reducible repeat (first | refine blk_drewN ?_ _ | refine blk_drew ?_ | refine blk_alloc ?_ _)); exact BK537.out) hb)
                    have n3_ := Aside0.mk (blk_below (g := gb538) (o := .cells #[.slice none 0 0] 26 (0, 0)) (by (with_reducible repeat (first | refine blk_drewN ?_ _ | refine blk_drew ?_ | refine blk_alloc ?_ _)); exact BK538.out) hb)
                    have n4_ := Aside0.mk (Kd.C_below (by repeat (first | (with_reducible exact HR548.out) | (with_reducible refine Kd.C_alloc ?_ _) | (with_reducible refine Kd.C_drewN ?_ _) | (with_reducible refine Kd.C_drew ?_) | exact HR548.out)) hb)
                    have n5_ := Aside0.mk (Kd.C_below (by repeat (first | (with_reducible exact HR555.out) | (with_reducible refine Kd.C_alloc ?_ _) | (with_reducible refine Kd.C_drewN ?_ _) | (with_reducible refine Kd.C_drew ?_) | exact HR555.out)) hb)
                    have n6_ := Aside0.mk (below_step (by repeat (first | (with_reducible first | exact HB.out | apply below_alloc | apply pw_below_drewN | apply below_drew1 | refine below_set ?_ GE537.out | refine below_set ?_ GE538.out) | exact HB.out)) hb)
                    clear HO543
                    clear BK537
                    clear BK538
                    clear HR548
                    clear HR555
                    clear HB
                    have HO543 := n0_
                    have HO551 := n1_
                    have BK537 := n2_
                    have BK538 := n3_
                    have HR548 := n4_
                    have HR555 := n5_
                    have HB := n6_
                    clear n0_ n1_ n2_ n3_ n4_ n5_ n6_
                    (try clear hb)
                    (try clear hb2)
                    (try clear hk)
                    (try clear hi)
                    (try clear ho0)
                    refine hK.out _ _ trivial (fun hHeld => ?_)
                    clear hK K
                    refine norm_ (a' := ?_) ?_ ?_
                    rotate_left
                    · show Act.put _ (some 28) _ = _
                      simp only [Act.put, List.setIfInBounds_toArray, List.set_cons_zero, List.set_cons_succ, i64_w, i32_w]
                      rfl
                    refine one_ (i := 8) (N := some 33) #[true, true, true, true, true, true, true, true, true, false, false, false] rfl rfl (one_of HT_.out (by kernel_rfl)) (by decide) (fun K hK => ?_)
                    refine Kd.R_append_rows_step Kd.string (w0 := w) w.heap.size (by rfl) (.tmp 28) (.tmp 32) 22 9 (.string ⟨#[]⟩) 16 rfl Tryd.underlying22 info9 rfl (by decide) (by omega) v550 t549 y552 _ _ _ (fun k_ => some k_ ≠ (.slice Ao37 t541.length co37 : Value).ownBlock) (fun _ => False) rfl rfl ?aO ?aR (fun _ _ h => h) (fun _ h => h.elim) ?aF ?aB ?aS ?aL ?_
                    (case aR => repeat (first | exact (by repeat (first | (with_reducible exact HR555.out) | (with_reducible refine Kd.C_alloc ?_ _) | (with_reducible refine Kd.C_drewN ?_ _) | (with_reducible refine Kd.C_drew ?_) | exact HR555.out)) | (with_reducible refine Kd.C_alloc ?_ _) | (with_reducible refine Kd.C_drewN ?_ _) | (with_reducible refine Kd.C_drew ?_)))
                    (case aB => exact (by repeat (first | (with_reducible first | exact HB.out | apply below_alloc | apply pw_below_drewN | apply below_drew1 | refine below_set ?_ GE537.out | refine below_set ?_ GE538.out) | exact HB.out)))
                    (case aF => exact (fun k_ hk => Kd.fresh' (Kd.R_lt (by (with_reducible repeat (first | apply Kd.R_alloc | apply Kd.R_drewN | apply Kd.R_drew)); exact HO543.out)) k_ hk))
                    (case aO => exact (by (with_reducible repeat (first | apply Kd.R_alloc | apply Kd.R_drewN | apply Kd.R_drew)); exact Kd.R_mono HO551.out (fun _ hk => hk.2)))
                    (case aS => exact (below_size (by repeat (first | (with_reducible first | exact HB.out | apply below_alloc | apply pw_below_drewN | apply below_drew1 | refine below_set ?_ GE537.out | refine below_set ?_ GE538.out) | exact HB.out))))
                    (case aL => have := LMc32.out; omega)
                    intro v557 w42 ho hb hg hat
                    rw [← Ny556.out] at ho
                    have n0_ := Aside0.mk (blk_grown (g := gb537) (o := .cells #[.slice A0_0 l0_0.length c0_0] 26 (0, 0)) (by (with_reducible repeat (first | refine blk_drewN ?_ _ | refine blk_drew ?_ | refine blk_alloc ?_ _)); exact BK537.out) hg (Kd.R_ne HO551.out BK537.out (by decide)))
                    have n1_ := Aside0.mk (blk_grown (g := gb538) (o := .cells #[.slice none 0 0] 26 (0, 0)) (by (with_reducible repeat (first | refine blk_drewN ?_ _ | refine blk_drew ?_ | refine blk_alloc ?_ _)); exact BK538.out) hg (Kd.R_ne HO551.out BK538.out (by decide)))
                    have n2_ := Aside0.mk (Kd.R_after (ok := (fun _ => True)) (by (with_reducible repeat (first | apply Kd.R_alloc | apply Kd.R_drewN | apply Kd.R_drew)); exact HO543.out) hg hat)
                    have n3_ := Aside0.mk (hb)
                    have n4_ := Aside0.mk ((show Kd.C Kd.string w42 Ao37 y545.length y545 from by rw [Ny545.out]; exact Kd.C_take (m := (t544 : Int).toNat) ((Kd.R_reads' (Kd.R_after (ok := (fun _ => True)) (by (with_reducible repeat (first | apply Kd.R_alloc | apply Kd.R_drewN | apply Kd.R_drew)); exact HO543.out) hg hat)).2.2) KL39.out))
                    have n5_ := Aside0.mk ((show Kd.C Kd.string w42 A40 y552.length y552 from by rw [Ny552.out, KA40.out]; exact Kd.C_drop (m := ((ji29) : Int).toNat) (c := co37) ((Kd.R_reads' (Kd.R_after (ok := (fun _ => True)) (by (with_reducible repeat (first | apply Kd.R_alloc | apply Kd.R_drewN | apply Kd.R_drew)); exact HO543.out) hg hat)).2.2) KL40.out ((Kd.R_reads' (Kd.R_after (ok := (fun _ => True)) (by (with_reducible repeat (first | apply Kd.R_alloc | apply Kd.R_drewN | apply Kd.R_drew)); exact HO543.out) hg hat)).2.1)))
                    have n6_ := Aside0.mk (ho)
                    clear BK537
                    clear BK538
                    clear HO543
                    clear HB
                    clear HR548
                    clear HR555
                    clear HO551
                    have BK537 := n0_
                    have BK538 := n1_
                    have HO543 := n2_
                    have HB := n3_
                    have HR548 := n4_
                    have HR555 := n5_
                    have HO558 := n6_
                    clear n0_ n1_ n2_ n3_ n4_ n5_ n6_
                    clear ho hb hg hat
                    obtain ⟨Ao43, co43, eo43⟩ := Kd.R_slice HO558.out
                    (first | subst eo43 | (injection eo43 with f1_ f2_ f3_; have f4_ := f1_.symm; have f5_ := f3_.symm; clear f1_ f2_ f3_; subst f4_; subst f5_))
                    refine hK.out _ _ trivial (fun hHeld => ?_)
                    clear hK K
                    refine norm_ (a' := ?_) ?_ ?_
                    rotate_left
                    · show Act.put _ (some 33) _ = _
                      simp only [Act.put, List.setIfInBounds_toArray, List.set_cons_zero, List.set_cons_succ, i64_w, i32_w]
                      rfl
                    refine one_ (i := 9) (N := some 34) #[true, true, true, true, true, true, true, true, true, true, false, false] rfl rfl (one_of HT_.out (by kernel_rfl)) (by decide) (fun K hK => ?_)
                    refine goes_ Tryd.func40 (by kernel_rfl) rfl #[.slice Ao43 y556.length co43] (by rfl) rfl rfl (by (try simp only [List.map_toArray, List.map_cons, List.map_nil]); first | done | rfl | (simp only [List.length_drop, List.length_take]; rfl)) ?_
                    with_reducible refine (spec_l2Of.calls kj2 _ _ y556 t559 _ ?side1 ?side2 A33.out).mono ?_
                    (case side1 => repeat (first | exact (Kd.R_reads' HO558.out).2.2 | (with_reducible refine Kd.C_alloc ?_ _) | (with_reducible refine Kd.C_drewN ?_ _) | (with_reducible refine Kd.C_drew ?_)))
                    (case side2 => exact (Kd.R_reads' HO558.out).2.1)
                    rintro e w44 ⟨v560, rfl, ho0, hb⟩
                    refine ⟨_, rfl, ?_⟩
                    have n0_ := Aside0.mk (Kd.R_below (by (with_reducible repeat (first | apply Kd.R_alloc | apply Kd.R_drewN | apply Kd.R_drew)); exact HO543.out) hb)
                    have n1_ := Aside0.mk (Kd.R_below (by (with_reducible repeat (first | apply Kd.R_alloc | apply Kd.R_drewN | apply Kd.R_drew)); exact HO558.out) hb)
                    have n2_ := Aside0.mk (Kd.R_lower ho0 (below_size (by repeat (first | (with_reducible first | exact HB.out | apply below_alloc | apply pw_below_drewN | apply below_drew1 | refine below_set ?_ GE537.out | refine below_set ?_ GE538.out) | exact HB.out))))
                    have n3_ := Aside0.mk (blk_below (g := gb537) (o := .cells #[.slice A0_0 l0_0.length c0_0] 26 (0, 0)) (by (with_reducible repeat (first | refine blk_drewN ?_ _ | refine blk_drew ?_ | refine blk_alloc ?_ _)); exact BK537.out) hb)
                    have n4_ := Aside0.mk (blk_below (g := gb538) (o := .cells #[.slice none 0 0] 26 (0, 0)) (by (with_reducible repeat (first | refine blk_drewN ?_ _ | refine blk_drew ?_ | refine blk_alloc ?_ _)); exact BK538.out) hb)
                    have n5_ := Aside0.mk (Kd.C_below (by repeat (first | (with_reducible exact HR548.out) | (with_reducible refine Kd.C_alloc ?_ _) | (with_reducible refine Kd.C_drewN ?_ _) | (with_reducible refine Kd.C_drew ?_) | exact HR548.out)) hb)
                    have n6_ := Aside0.mk (Kd.C_below (by repeat (first | (with_reducible exact HR555.out) | (with_reducible refine Kd.C_alloc ?_ _) | (with_reducible refine Kd.C_drewN ?_ _) | (with_reducible refine Kd.C_drew ?_) | exact HR555.out)) hb)
                    have n7_ := Aside0.mk (below_step (by repeat (first | (with_reducible first | exact HB.out | apply below_alloc | apply pw_below_drewN | apply below_drew1 | refine below_set ?_ GE537.out | refine below_set ?_ GE538.out) | exact HB.out)) hb)
                    clear HO543
                    clear HO558
                    clear BK537
                    clear BK538
                    clear HR548
                    clear HR555
                    clear HB
                    have HO543 := n0_
                    have HO558 := n1_
                    have HO561 := n2_
                    have BK537 := n3_
                    have BK538 := n4_
                    have HR548 := n5_
                    have HR555 := n6_
                    have HB := n7_
                    clear n0_ n1_ n2_ n3_ n4_ n5_ n6_ n7_
                    (try clear hb)
                    (try clear hb2)
                    (try clear hk)
                    (try clear hi)
                    (try clear ho0)
                    obtain ⟨Ao45, co45, eo45⟩ := Kd.R_slice HO561.out
                    (first | subst eo45 | (injection eo45 with f1_ f2_ f3_; have f4_ := f1_.symm; have f5_ := f3_.symm; clear f1_ f2_ f3_; subst f4_; subst f5_))
                    refine hK.out _ _ trivial (fun hHeld => ?_)
                    clear hK K
                    refine norm_ (a' := ?_) ?_ ?_
                    rotate_left
                    · show Act.put _ (some 34) _ = _
                      simp only [Act.put, List.setIfInBounds_toArray, List.set_cons_zero, List.set_cons_succ, i64_w, i32_w]
                      rfl
                    refine one_ (i := 10) (N := none) #[true, true, true, true, true, true, true, true, true, true, true, false] rfl rfl (one_of HT_.out (by kernel_rfl)) (by decide) (fun K hK => ?_)
                    have hs46 : w44.cell? ⟨gb538, 0, none⟩ = some (.slice none 0 0) := (blk_cell BK538.out 0).trans rfl
                    have hfs46 := blk_frozen BK538.out 0
                    have hns46_0 := NB537_538.out
                    have hms46_0 := NB538_537.out
                    refine skip_ (w1 := ?_) (by rfl) rfl ?_ ?_
                    rotate_left
                    · go_simp
                      rfl
                    refine hK.out _ _ trivial (fun hHeld => ?_)
                    clear hK K
                    refine pure_ (i := 11) (N := some 5) (v := ?_) (a' := ?_) #[true, true, true, true, true, true, true, true, true, true, true, true] rfl rfl (any_of HT_.out (by kernel_rfl)) (fun _ _ _ h => h) (Or.inl ⟨by rfl, ?_⟩) ?_ ?_
                    rotate_left
                    · intro w'
                      go_simp
                      with_reducible rfl
                    rotate_left
                    · simp only [Act.put, List.setIfInBounds_toArray, List.set_cons_zero, List.set_cons_succ, i64_w, i32_w]
                      rfl
                    refine done_ (done_of HT_.out (by kernel_rfl)) ?_
                    try go_wp2
                    refine bodyPost_ret (results_ct rfl _ _ gb538 26 #[.slice Ao45 t559.length co45] (0, 0) _ rfl (by (with_reducible repeat (first | refine blk_drewN ?_ _ | refine blk_drew ?_ | refine blk_alloc ?_ _)); refine blk_put (cs := #[.slice none 0 0]) ?_ 0 _ rfl; (with_reducible repeat (first | refine blk_drewN ?_ _ | refine blk_drew ?_ | refine blk_alloc ?_ _)); exact BK538.out) Tryd.underlying26 rfl (by kernel_rfl)) rfl ?_
                    exact ⟨_, by first | rfl | (simp [errW_none, errW_some] <;> rfl) | (simp only [← hji29]; first | rfl | (simp [errW_none, errW_some] <;> rfl)) | (simp [*, errW_none, errW_some] <;> rfl), by (with_reducible repeat (first | apply Kd.R_alloc | apply Kd.R_drewN | apply Kd.R_drew)); exact Kd.R_mono (R_same_ (Kd.R_far (p := ⟨gb538, 0, none⟩) (Kd.R_types HO561.out BK538.out (by decide)) (fun _ hk => hk.2) (.slice Ao45 t559.length co45)) rfl) (fun _ hk => trivial), by repeat (first | (with_reducible first | exact HB.out | apply below_alloc | apply pw_below_drewN | apply below_drew1 | refine below_set ?_ GE537.out | refine below_set ?_ GE538.out) | exact HB.out)⟩
                  · rw [if_neg c32] at H
                    exact absurd H (by simp)
                · rw [if_neg c31] at H
                  exact absurd H (by simp)
              · rw [if_neg c30] at H
                exact absurd H (by simp)
            · rw [if_neg c27] at H
              exact absurd H (by simp)
          · rw [if_neg c26] at H
            exact absurd H (by simp)
end Go.Proofs.YtefcbnlljpdjnaaDoor.Q
namespace Go.Proofs.YtefcbnlljpdjnaaDoor.Q
open Go.RowKit Go.Proofs.YtefcbnlljpdjnaaDoorW.PrintWords Go.Proofs.YtefcbnlljpdjnaaDoorW.PrintLast
theorem index_l0 (l : List ByteArray) (x : ByteArray) (hl : l.length ≤ 4294967296) : ∀ (n i : Nat), i + n = l.length → (∀ y ∈ l.take i, y ≠ x) → Ev (fun k => slices_Index_string_string.l0 k l x (l.length : Int) (i : Int)) (placeW l x) := by
  intro n
  induction n with
  | zero =>
    intro i h hno
    refine Ev.succ ?_
    simp only [slices_Index_string_string.l0]
    refine Ev.neg (by omega) ?_
    rw [List.take_of_length_le (by omega)] at hno
    unfold placeW
    rw [if_neg]
    · exact Ev.pure _
    · rw [hasW_iff]; exact fun hm => hno x hm rfl
  | succ n ih =>
    intro i h hno
    refine Ev.succ ?_
    simp only [slices_Index_string_string.l0]
    have hi : i < l.length := by omega
    rw [rd_nat l hi, wnext i (by omega)]
    refine Ev.pos (by omega) (Ev.pos (by omega) (Ev.pos (by omega) ?_))
    by_cases e : l[i] = x
    · refine Ev.pos (by rw [e]) ?_
      unfold placeW
      rw [if_pos (by rw [hasW_iff, ← e]; exact List.getElem_mem hi)]
      have hf : l.findIdx (fun y => decide (y = x)) = i := by
        rw [List.findIdx_eq hi]
        refine ⟨by simp [e], fun j hj => ?_⟩
        have : l[j]'(by omega) ∈ l.take i := by
          rw [List.mem_take_iff_getElem]
          exact ⟨j, by omega, rfl⟩
        simp [hno _ this]
      rw [hf]
      exact Ev.pure _
    · refine Ev.neg (fun h2 => e ((tl_eq _ _).1 h2).symm) (ih (i + 1) (by omega) (fun y hy => ?_))
      rw [List.take_succ_eq_append_getElem hi] at hy
      rcases List.mem_append.1 hy with hy | hy
      · exact hno y hy
      · rw [List.mem_singleton.1 hy]; exact e
theorem index_ev (l : List ByteArray) (x : ByteArray) (hl : l.length ≤ 4294967296) : Ev (fun k => slices_Index_string_string.f k l x) (placeW l x) := by
  unfold slices_Index_string_string.f
  exact index_l0 l x hl l.length 0 (by omega) (fun y hy => by simp at hy)
end Go.Proofs.YtefcbnlljpdjnaaDoor.Q
namespace Go.Proofs.YtefcbnlljpdjnaaDoor.Q
open Go.RowKit Go.Proofs.YtefcbnlljpdjnaaDoorW.PrintWords Go.Proofs.YtefcbnlljpdjnaaDoorW.PrintLast
theorem placeW_has (l : List ByteArray) (x : ByteArray) : decide (placeW l x ≥ 0) = hasW l x := by
  unfold placeW
  cases h : hasW l x with
  | true => rw [if_pos rfl]; exact decide_eq_true (by omega)
  | false => rw [if_neg (by decide)]; rfl
theorem contains_ev (l : List ByteArray) (x : ByteArray) (hl : l.length ≤ 4294967296) : Ev (fun k => slices_Contains_string_string.f k l x) (hasW l x) := by
  unfold slices_Contains_string_string.f
  exact Ev.bind (index_ev l x hl) (Ev.const (by rw [← placeW_has]))
theorem implHas {ws : List ByteArray} (h : VW ws) (x : ByteArray) : Ev (fun k => impl_Trie_has.f k (trieW ws) x) (hasW ws x) := by
  have h3 := h.len
  unfold impl_Trie_has.f
  exact Ev.bind (implWords h) (Ev.bind (contains_ev ws x (by omega)) (Ev.pure _))
end Go.Proofs.YtefcbnlljpdjnaaDoor.Q
namespace Go.Proofs.YtefcbnlljpdjnaaDoor.Q
open Go.RowKit Go.Sort Go.Shelf Go.Lib Go.Proofs.YtefcbnlljpdjnaaDoorW.PrintWords Go.Proofs.YtefcbnlljpdjnaaDoorW.PrintLast Go.Proofs.YtefcbnlljpdjnaaDoorW.PrintMore
set_option linter.unusedVariables false
set_option linter.unusedSimpArgs false
theorem rd_arr (d : Array ByteArray) (j : Nat) (h : j < d.size) : rdOf ByteArray.empty d.toList (j : Int) = d[j]! := by
  simp [rdOf, h, getElem!_pos]
theorem set_arr (d : Array ByteArray) (i : Nat) (u : ByteArray) : d.toList.set (i : Int).toNat u = (d.setIfInBounds i u).toList := by
  simp
theorem hit_miss {l : List ByteArray} {p : ByteArray → Bool} {i : Int} (h : Hit l p i) (hn : NoHit l p l.length) : i = -1 := by
  rcases h with ⟨rfl, _⟩ | ⟨m, rfl, hm, h, _⟩
  · rfl
  · rw [hn m hm] at h; cases h
theorem hit_at {l : List ByteArray} {p : ByteArray → Bool} {i : Int} {m : Nat} (h : Hit l p i) (hm : m < l.length) (hp : p (rdOf ByteArray.empty l (m : Int)) = true) (hn : NoHit l p m) : i = (m : Int) := by
  rcases h with ⟨rfl, h⟩ | ⟨q, rfl, hq, h, h2⟩
  · rw [h m hm] at hp; cases hp
  · rcases Nat.lt_trichotomy q m with e | e | e
    · rw [hn q e] at h; cases h
    · rw [e]
    · rw [h2 m e] at hp; cases hp
theorem hit_cases (l : List ByteArray) (p : ByteArray → Bool) : NoHit l p l.length ∨ ∃ m : Nat, m < l.length ∧ p (rdOf ByteArray.empty l (m : Int)) = true ∧ NoHit l p m := by
  have key : ∀ n, NoHit l p n ∨ ∃ m : Nat, m < n ∧ p (rdOf ByteArray.empty l (m : Int)) = true ∧ NoHit l p m := by
    intro n
    induction n with
    | zero => exact .inl fun j hj => absurd hj (Nat.not_lt_zero _)
    | succ n ih =>
      rcases ih with h | ⟨m, hm, h1, h2⟩
      · cases hp : p (rdOf ByteArray.empty l (n : Int)) with
        | true => exact .inr ⟨n, Nat.lt_succ_self _, hp, h⟩
        | false =>
          refine .inl fun j hj => ?_
          by_cases e : j = n
          · rw [e]; exact hp
          · exact h j (by omega)
      · exact .inr ⟨m, by omega, h1, h2⟩
  exact key l.length
theorem filter_all {l : List ByteArray} {p : ByteArray → Bool} (h : NoHit l p l.length) : (l.filter fun x => !p x) = l := by
  rw [List.filter_eq_self]
  intro x hx
  obtain ⟨j, hj, rfl⟩ := List.getElem_of_mem hx
  have := h j hj
  simp [rdOf, hj] at this
  simp [this]
theorem row_cleared {w : World} {base g cap i : Nat} {dk : Array ByteArray} {ys : List ByteArray} (h : Kd.R Kd.string 9 w base (fun _ => True) (.slice (some ⟨g, 0, none⟩) dk.toList.length cap) dk.toList) (hi : i ≤ dk.size)
    (hl : lay dk i (List.replicate (dk.size - i) ByteArray.empty) = (ys ++ List.replicate (dk.size - i) ByteArray.empty).toArray) (hy : ys.length = i) :
    Kd.R Kd.string 9 (w.setCells g (0 + i) (List.replicate (dk.size - i) (.string ByteArray.empty))) base (fun _ => True) (.slice (some ⟨g, 0, none⟩) ys.length cap) ys := by
  have hown := owns_of_R h
  obtain ⟨g', cap', e, _, _, _, _, _, hH⟩ := Lib.holds_of_ownsRow hown (by intro e; cases e)
  injection e with e1 _ _
  injection e1 with e1
  injection e1 with e1
  subst e1
  have hs := putRow_self Value.string w g 0 _ hH
  have hp := putRow_setCells Value.string w g 0 (List.replicate (dk.size - i) ByteArray.empty) dk i (by simp; omega)
  rw [List.map_replicate] at hp
  have hs' : putRow Value.string w g 0 dk = w := hs
  rw [hs', hl] at hp
  rw [hp]
  have hc2 := Lib.ownsRow_putRow (q := 0) (k := ys.length) (ys := ys ++ List.replicate (dk.size - i) ByteArray.empty) hown (by simp; omega) (by simp; omega)
  rw [List.take_left] at hc2
  exact R_of_owns hc2 (fun _ _ => trivial)
theorem below_cells {B : Nat} {w0 w : World} (h : Below B w0 w) {g : Nat} (hg : B ≤ g) : ∀ (vs : List Value) (o : Nat), Below B w0 (w.setCells g o vs) := by
  intro vs
  induction vs generalizing w with
  | nil => intro o; exact h
  | cons v vs ih => intro o; simp only [World.setCells]; exact ih (h.setCell hg v) (o + 1)
set_option maxHeartbeats 2000000 in
theorem deleteFunc_gen (g : Nat) (bs lb : Array Value) (p : ByteArray → Bool) (eg : Enters g) (base : Nat) (v : Value) (xs : List ByteArray) (w : World) (hbs : base ≤ w.heap.size) (hR : Kd.R Kd.string 9 w base (fun _ => True) v xs) (hn : xs.length < 4611686018427387904) (ht : Tells g bs lb p base w) :
    Calls Tryd.prog 64 #[v, .func (.func g) bs lb] w fun e w' => ∃ v' : Value, e = .returned v' ∧ Kd.R Kd.string 9 w' base (fun _ => True) v' (xs.filter fun x => !p x) ∧ Below base w w' := by
  rcases hit_cases xs p with hno | ⟨k0, hk0, hp0, hno⟩
  · obtain ⟨A, c, rfl⟩ := Kd.R_slice hR
    have hI := (indexFunc_gen g bs lb p eg A c xs w (Kd.R_reads' hR).2.2 hn (ht.up hbs)).mono (R' := fun e w' => e = .returned (.int .i64 (-1)) ∧ Below w.heap.size w w') (fun e w' ⟨i, he, hi, hb⟩ => ⟨by rw [he, hit_miss hi hno], hb⟩)
    rw [filter_all hno]
    have HI := Aside0.mk hI
    have HR := Aside0.mk hR
    clear hI hR ht eg hno
    go_enter Tryd.func64, Tryd.ntmps64
    go_wp2_with (go_at_call 77; refine HI.out.mono ?_; rintro e w' ⟨rfl, hb⟩; have HB := Aside0.mk hb; clear hb)
    go_ret
    exact ⟨_, rfl, Kd.R_below HR.out HB.out, HB.out.mono hbs⟩
  · obtain ⟨g0, cap, rfl, hg0, hgl, _⟩ := Kd.R_form hR (by omega)
    have hI := (indexFunc_gen g bs lb p eg (some ⟨g0, 0, none⟩) cap xs w (Kd.R_reads' hR).2.2 hn (ht.up hbs)).mono (R' := fun e w' => e = .returned (.int .i64 k0) ∧ Below w.heap.size w w') (fun e w' ⟨i, he, hi, hb⟩ => ⟨by rw [he, hit_at hi hk0 hp0 hno], hb⟩)
    obtain ⟨d, hd⟩ : ∃ d : Array ByteArray, d = xs.toArray := ⟨_, rfl⟩
    have hdl : d.toList = xs := by rw [hd]
    have hds : d.size = xs.length := by rw [hd]; simp
    obtain ⟨kp, hkp⟩ : ∃ kp : Nat → Bool, kp = fun j => !p d[j]! := ⟨_, rfl⟩
    have hstart : KeptInv kp d (k0 + 1) k0 d := KeptInv.start (fun j hj => by rw [hkp]; show (!p d[j]!) = true; rw [← rd_arr d j (by omega), hdl, hno j hj]; rfl) (by rw [hkp]; show (!p d[k0]!) = false; rw [← rd_arr d k0 (by omega), hdl, hp0]; rfl)
    have hfil : (xs.filter fun x => !p x) = keptUpTo kp d d.size := by rw [hkp, keptUpTo_filter (fun x => !p x) d, hdl]
    have hRd : Kd.R Kd.string 9 w base (fun _ => True) (.slice (some ⟨g0, 0, none⟩) d.toList.length cap) d.toList := by rw [hdl]; exact hR
    have hcapn : xs.length ≤ cap := (Kd.R_reads' hR).2.1
    rw [hfil]
    have hne1 : ((k0 : Int) == -1) = false := beq_eq_false_iff_ne.2 (by omega)
    have hxn : xs.length = d.size := hds.symm
    have HI := Aside0.mk hI
    have HT := Aside0.mk ht
    have HS := Aside0.mk hstart
    have HK := Aside0.mk hkp
    have HRD := Aside0.mk hRd
    rw [hxn] at hk0 hn hcapn HI ⊢
    clear hI hR ht hno hp0 hstart hkp hRd hfil hdl hd hds hxn
    unfold Enters at eg
    have t22 := Tryd.underlying22
    have v23 : ∀ w, (zeroValue 9).run Tryd.prog w = .ok (.string ByteArray.empty) w := fun w => by kernel_rfl
    go_enter Tryd.func64, Tryd.ntmps64
    go_wp2_with (go_at_call 77; refine HI.out.mono ?_; rintro e w1 ⟨rfl, hb⟩; have HB1 := Aside0.mk hb; clear hb)
    go_loopw [5, 6, 7] (fun s5 s6 _ wr => ∃ (i j : Nat) (dk : Array ByteArray), s5 = .int .i64 i ∧ s6 = .int .i64 j ∧ j ≤ d.size ∧ i < j ∧ Aside0 (KeptInv kp d j i dk) ∧ Aside0 (Kd.R Kd.string 9 wr base (fun _ => True) (.slice (some ⟨g0, 0, none⟩) dk.toList.length cap) dk.toList) ∧ Aside0 (Below base w wr))
      (fun _ s6 _ _ => d.size - (intOf s6).toNat)
    case atStart => exact ⟨k0, k0 + 1, d, rfl, by go_num, by omega, by omega, HS, ⟨Kd.R_below HRD.out HB1.out⟩, ⟨HB1.out.mono hbs⟩⟩
    case round =>
      obtain ⟨i, j, dk, rfl, rfl, hjd, hij, HKI, HRR, HBB⟩ := hrel
      have hdk := HKI.out.size
      by_cases hlt : j < d.size
      · have hcj := (Kd.R_cell ByteArray.empty HRR.out (j : Int) (by omega) (by simp; omega)).1
        rw [rd_arr dk j (by omega), HKI.out.high j (by omega), Int.toNat_natCast] at hcj
        have hcall := HT.out d[j]! wr HBB.out
        generalize hu : d[j]! = u at hcj hcall
        have HU := Aside0.mk hu
        clear hu
        cases hq : p u with
        | false =>
          rw [hq] at hcall
          have HQ := Aside0.mk hq
          clear hq
          go_wp2_with (go_at_fn g; refine hcall.mono ?_; rintro e w2 ⟨rfl, hb⟩; have HR2 := Aside0.mk (Kd.R_below HRR.out hb); have HB2 := Aside0.mk (HBB.out.trans (hb.mono (Nat.le_trans hbs HBB.out.size))); have hci := Kd.R_cell ByteArray.empty HR2.out (i : Int) (by omega) (by simp; omega); rw [Int.toNat_natCast] at hci; obtain ⟨hci1, hci2⟩ := hci; clear hb)
          go_roundw
          case rel =>
            refine ⟨i + 1, j + 1, dk.setIfInBounds i u, by go_num, by go_num, by omega, by omega, ⟨?_⟩, ⟨?_⟩, ⟨HB2.out.setCell hg0 _⟩⟩
            · have := HKI.out.keep hlt (by rw [HK.out]; show (!p d[j]!) = true; rw [HU.out, HQ.out]; rfl)
              rwa [HU.out] at this
            · have h3 : Kd.R Kd.string 9 (w2.setCell ⟨g0, (i : Int).toNat, none⟩ (.string u)) base (fun _ => True) (.slice (some ⟨g0, 0, none⟩) dk.toList.length cap) (dk.toList.set (i : Int).toNat u) := (Kd.R_put HR2.out (i : Int) u).1
              rw [set_arr, Int.toNat_natCast] at h3
              have hl : (dk.setIfInBounds i u).toList.length = dk.toList.length := by simp
              rw [hl]
              exact h3
          case measure => simp [intOf]; omega
        | true =>
          rw [hq] at hcall
          have HQ := Aside0.mk hq
          clear hq
          go_wp2_with (go_at_fn g; refine hcall.mono ?_; rintro e w2 ⟨rfl, hb⟩; have HR2 := Aside0.mk (Kd.R_below HRR.out hb); have HB2 := Aside0.mk (HBB.out.trans (hb.mono (Nat.le_trans hbs HBB.out.size))); clear hb)
          go_roundw
          case rel => exact ⟨i, j + 1, dk, rfl, by go_num, by omega, by omega, ⟨HKI.out.skip (by rw [HK.out]; show (!p d[j]!) = false; rw [HU.out, HQ.out]; rfl)⟩, HR2, HB2⟩
          case measure => simp [intOf]; omega
      · obtain rfl : j = d.size := by omega
        have hcl : ∀ ty, (Builtin.clear_ #[22] ty #[.slice (some ⟨g0, 0 + i, none⟩) (d.size - i) (cap - i)]).run Tryd.prog wr = .ok (.tuple #[]) (wr.setCells g0 (0 + i) (List.replicate (d.size - i) (.string ByteArray.empty))) :=
          fun ty => Lib.run_clear_slice wr _ _ ty _ t22 v23 rfl rfl g0 (0 + i) _ _ (by omega)
            (fun t ht => by
              have := (Kd.R_cell ByteArray.empty HRR.out ((i + t : Nat) : Int) (by omega) (by simp; omega)).1
              rw [Int.toNat_natCast] at this
              rw [show 0 + i + t = i + t by omega, this]; rfl)
            (fun t ht => by
              have := (Kd.R_cell ByteArray.empty HRR.out ((i + t : Nat) : Int) (by omega) (by simp; omega)).2
              rw [Int.toNat_natCast] at this
              rw [show 0 + i + t = i + t by omega, this])
        simp only [Nat.zero_add] at hcl
        clear hdk
        go_wp2
        go_ret
        have hz := HKI.out.done ByteArray.empty
        have hdk := HKI.out.size
        rw [← hdk] at hz
        have hfin := row_cleared HRR.out (by omega) hz (by rw [hdk]; exact HKI.out.len)
        rw [hdk] at hfin
        simp only [Nat.zero_add] at hfin
        exact ⟨_, by rw [HKI.out.len]; rfl, hfin, by simpa using below_cells HBB.out hg0 _ i⟩
end Go.Proofs.YtefcbnlljpdjnaaDoor.Q
namespace Go.Proofs.YtefcbnlljpdjnaaDoor.Q
open Go.RowKit Go.Sort Go.Shelf Go.Proofs.YtefcbnlljpdjnaaDoorW.PrintWords Go.Proofs.YtefcbnlljpdjnaaDoorW.PrintLast Go.Proofs.YtefcbnlljpdjnaaDoorW.PrintMore
set_option linter.unusedVariables false
def dropX (a x : ByteArray) : Bool := x.toList == a.toList
theorem drop1_tells (a : ByteArray) (B base : Nat) (w : World) (hB : B < base) (hbox : w.heap[B]? = some (.cells #[.string a] 9 (0, 0))) :
    Tells 65 #[] #[.pointer (some ⟨B, 0, none⟩)] (dropX a) base w := by
  intro x W hW
  have hcell : W.cell? ⟨B, 0, none⟩ = some (.string a) := box_at ((hW.block B hB).trans hbox)
  clear hbox hW
  show Calls Tryd.prog 65 #[.string x, .pointer (some ⟨B, 0, none⟩)] W _
  go_enter Tryd.func65, Tryd.ntmps65
  go_wp2
  go_ret
  exact ⟨rfl, ⟨rfl, rfl, rfl, Nat.le_refl _, fun _ _ => rfl⟩⟩
theorem drop1_enters : Enters 65 := enters_of Tryd.func65 (by kernel_rfl) rfl
def impl_DropWord.f (l0_0 : List IN) (a1 : ByteArray) : Option (List IN × Bool) := some (if (isTrieW l0_0 && decide (okWord a1)) && hasW (wordsV l0_0) a1 then (trieW ((wordsV l0_0).filter fun x => !dropX a1 x), true) else ([], false))
set_option maxHeartbeats 2000000 in
theorem impl_DropWord.calls (A0_0 : Option Addr) (c0_0 : Nat) (l0_0 : List IN) (a1 : ByteArray) (r1 : List IN) (r2 : Bool) (w : World) (hr0_0 : Kd.C k76 w A0_0 l0_0.length l0_0) (hc0_0 : l0_0.length ≤ c0_0) (h : impl_DropWord.f l0_0 a1 = some (r1, r2)) :
    Calls Tryd.prog 30 #[.agg #[.slice A0_0 l0_0.length c0_0], .string a1] w fun e w' => ∃ v0_ : Value, e = .returned (.tuple #[.agg #[v0_], .bool r2]) ∧ Kd.R k76 76 w' w.heap.size (fun _ => True) v0_ r1 ∧ Below w.heap.size w w' := by
  unfold impl_DropWord.f at h
  have HB0 := Aside0.mk ((((Below.refl w.heap.size w).alloc (Nat.le_refl _) (.cells #[.slice A0_0 l0_0.length c0_0] 26)).alloc (by simp) (.cells #[.string a1] 9)).alloc (by simp; omega) (.cells #[.slice none 0 0] 26))
  have HX := Aside0.mk (box_three w (.slice A0_0 l0_0.length c0_0) (.string a1) (.slice none 0 0) 26 9 26)
  have HR0 := Aside0.mk hr0_0
  have HC0 := Aside0.mk hc0_0
  obtain ⟨k0, hk0⟩ := (kept_ev l0_0 a1).ex
  have HK0 := Aside0.mk hk0
  clear hr0_0 hc0_0 hk0
  cases hkept : (isTrieW l0_0 && decide (okWord a1)) with
  | false =>
    rw [hkept] at h HK0
    injection h with h
    injection h with h1 h2
    subst h1; subst h2
    clear hkept
    go_enter Tryd.func30, Tryd.ntmps30
    go_wp2_with (go_at_call 55; refine (impl_areKept.calls k0 A0_0 c0_0 l0_0 a1 false _ (Kd.C_below HR0.out HB0.out) HC0.out HK0.out).mono ?_; rintro e w1 ⟨rfl, hb⟩; have HQ1 := Aside0.mk (show Below (w.heap.size + 1 + 1 + 1) _ w1 by simpa using hb); have hx := (HX.out w1 HQ1.out).2.2; have hxc := box_at hx; have hxf := box_frozen hx; have HXX := Aside0.mk hx; clear hb hx)
    have hfin := blk_put HXX.out 0 (.slice none 0 0) rfl
    refine bodyPost_ret (results_ct rfl _ _ (w.heap.size + 1 + 1) 26 #[.slice none 0 0] (0, 0) _ rfl hfin Tryd.underlying26 rfl (by kernel_rfl)) rfl ?_
    exact ⟨_, rfl, Kd.R_nil _ _ _ _ _, (HB0.out.trans (HQ1.out.mono (by omega))).setCell (by simp; omega) _⟩
  | true =>
    rw [hkept] at h HK0
    rcases trie_split l0_0 with ht0 | ⟨wa, hva, rfl, ht0, hwa⟩
    · rw [ht0] at hkept; cases hkept
    rw [hwa] at h
    clear hkept ht0 hwa
    obtain ⟨k1, hk1⟩ := (implHas hva a1).ex
    have HK1 := Aside0.mk hk1
    clear hk1
    cases hhas : hasW wa a1 with
    | false =>
      rw [hhas] at h HK1
      injection h with h
      injection h with h1 h2
      subst h1; subst h2
      clear hhas hva
      go_enter Tryd.func30, Tryd.ntmps30
      go_wp2_with (first
        | (go_at_call 55; refine (impl_areKept.calls k0 A0_0 c0_0 _ a1 true _ (Kd.C_below HR0.out HB0.out) HC0.out HK0.out).mono ?_; rintro e w1 ⟨rfl, hb⟩; have HQ1 := Aside0.mk (show Below (w.heap.size + 1 + 1 + 1) _ w1 by simpa using hb); have hx1 := box_at (HX.out w1 HQ1.out).1; have hx2 := box_at (HX.out w1 HQ1.out).2.1; clear hb)
        | (go_at_call 59; refine (impl_Trie_has.calls k1 A0_0 c0_0 _ a1 false w1 (Kd.C_below HR0.out (HB0.out.trans (HQ1.out.mono (by omega)))) HC0.out HK1.out).mono ?_; rintro e w2 ⟨rfl, hb⟩; have HQ2 := Aside0.mk (HQ1.out.trans (hb.mono (bsz3 HQ1.out))); have hx := (HX.out w2 HQ2.out).2.2; have hxc := box_at hx; have hxf := box_frozen hx; have HXX := Aside0.mk hx; clear hb hx))
      have hfin := blk_put HXX.out 0 (.slice none 0 0) rfl
      refine bodyPost_ret (results_ct rfl _ _ (w.heap.size + 1 + 1) 26 #[.slice none 0 0] (0, 0) _ rfl hfin Tryd.underlying26 rfl (by kernel_rfl)) rfl ?_
      exact ⟨_, rfl, Kd.R_nil _ _ _ _ _, (HB0.out.trans (HQ2.out.mono (by omega))).setCell (by simp; omega) _⟩
    | true =>
      rw [hhas] at h HK1
      injection h with h
      injection h with h1 h2
      subst h1; subst h2
      clear hhas
      obtain ⟨k2, hk2⟩ := (implWords hva).ex
      have HK2 := Aside0.mk hk2
      have hlen := hva.len
      have hfl := List.length_filter_le (fun x => !dropX a1 x) wa
      have hok : impl_trieOf.f (wa.filter fun x => !dropX a1 x) = some (trieW (wa.filter fun x => !dropX a1 x)) := okTrieOf_of (fun x hx => (hva.ok x (List.mem_filter.1 hx).1).1) (by omega) (SS.sw (hva.ss.filter _))
      have HOK := Aside0.mk hok
      have HDEL : Aside0 (∀ v1 w1, Below (w.heap.size + 1 + 1 + 1) (((w.alloc (.cells #[.slice A0_0 (trieW wa).length c0_0] 26)).alloc (.cells #[.string a1] 9)).alloc (.cells #[.slice none 0 0] 26)) w1 → Kd.R Kd.string 9 w1 (w.heap.size + 1 + 1 + 1) (fun _ => True) v1 wa →
          Calls Tryd.prog 64 #[v1, .func (.func 65) #[] #[.pointer (some ⟨w.heap.size + 1, 0, none⟩)]] w1 fun e w' => ∃ v' : Value, e = .returned v' ∧ Kd.R Kd.string 9 w' (w.heap.size + 1 + 1 + 1) (fun _ => True) v' (wa.filter fun x => !dropX a1 x) ∧ Below (w.heap.size + 1 + 1 + 1) w1 w') := ⟨fun v1 w1 hb hR =>
        deleteFunc_gen 65 #[] #[.pointer (some ⟨w.heap.size + 1, 0, none⟩)] (dropX a1) drop1_enters (w.heap.size + 1 + 1 + 1) v1 wa w1 (bsz3 hb) hR (by omega)
          (drop1_tells a1 (w.heap.size + 1) _ w1 (by omega) (HX.out w1 hb).2.1)⟩
      generalize hfw : (wa.filter fun x => !dropX a1 x) = fw at HOK HDEL ⊢
      clear hk2 hok hlen hfl hva hfw
      go_enter Tryd.func30, Tryd.ntmps30
      go_wp2_with (first
        | (go_at_call 55; refine (impl_areKept.calls k0 A0_0 c0_0 _ a1 true _ (Kd.C_below HR0.out HB0.out) HC0.out HK0.out).mono ?_; rintro e w1 ⟨rfl, hb⟩; have HQ1 := Aside0.mk (show Below (w.heap.size + 1 + 1 + 1) _ w1 by simpa using hb); have hx1 := box_at (HX.out w1 HQ1.out).1; have hx2 := box_at (HX.out w1 HQ1.out).2.1; clear hb)
        | (go_at_call 59; refine (impl_Trie_has.calls k1 A0_0 c0_0 _ a1 true w1 (Kd.C_below HR0.out (HB0.out.trans (HQ1.out.mono (by omega)))) HC0.out HK1.out).mono ?_; rintro e w2 ⟨rfl, hb⟩; have HQ2 := Aside0.mk (HQ1.out.trans (hb.mono (bsz3 HQ1.out))); have hx3 := box_at (HX.out w2 HQ2.out).1; clear hb)
        | (go_at_call 57; refine (impl_Trie_words.calls k2 A0_0 c0_0 _ wa w2 (Kd.C_below HR0.out (HB0.out.trans (HQ2.out.mono (by omega)))) HC0.out HK2.out).mono ?_; rintro e w3 ⟨v3, rfl, hr, hb⟩; have HQ3 := Aside0.mk (HQ2.out.trans (hb.mono (bsz3 HQ2.out))); have HR3 := Aside0.mk (Kd.R_lower hr (bsz3 HQ2.out)); clear hr hb)
        | (go_at_call 64; refine (HDEL.out v3 w3 HQ3.out HR3.out).mono ?_; rintro e w4 ⟨v4, rfl, hr, hb⟩; obtain ⟨A4, c4, rfl⟩ := Kd.R_slice hr; have HQ4 := Aside0.mk (HQ3.out.trans hb); have HR4 := Aside0.mk hr; clear hr hb)
        | (go_at_call 63; refine (impl_trieOf.calls A4 c4 fw (trieW fw) _ (Kd.R_reads' HR4.out).2.2 (Kd.R_reads' HR4.out).2.1 HOK.out).mono ?_; rintro e w5 ⟨v5, rfl, hr, hb⟩; obtain ⟨A5, c5, rfl⟩ := Kd.R_slice hr; have HQ5 := Aside0.mk (HQ4.out.trans (hb.mono (bsz3 HQ4.out))); have hx := (HX.out w5 HQ5.out).2.2; have hxc := box_at hx; have hxf := box_frozen hx; have HXX := Aside0.mk hx; have HR5 := Aside0.mk (Kd.R_lower hr (bsz3 HQ4.out)); clear hr hb hx))
      have hfin := blk_put HXX.out 0 (.slice A5 (trieW fw).length c5) rfl
      refine bodyPost_ret (results_ct rfl _ _ (w.heap.size + 1 + 1) 26 #[.slice A5 (trieW fw).length c5] (0, 0) _ rfl hfin Tryd.underlying26 rfl (by kernel_rfl)) rfl ?_
      exact ⟨_, rfl, Kd.R_lower (Kd.R_mono (Kd.R_move (Kd.R_bound HR5.out) (fun g hg => Below.heap_setCell _ _ _ _ (by have := hg.2.1; simp; omega))) (fun _ hg => trivial)) (by omega), (HB0.out.trans (HQ5.out.mono (by omega))).setCell (by simp; omega) _⟩
end Go.Proofs.YtefcbnlljpdjnaaDoor.Q
namespace Go.Proofs.YtefcbnlljpdjnaaDoor.Q
open Go.RowKit Go.Proofs.YtefcbnlljpdjnaaDoorW.PrintWords Go.Proofs.YtefcbnlljpdjnaaDoorW.PrintLast Go.Proofs.YtefcbnlljpdjnaaDoorW.PrintMore
attribute [local go_sem] run_field_25 run_field_26 run_field_35 run_field_36 isSome_setCell max2_int min2_int max_two min_two max_three min_three max_four min_four   -- for this text's walks alone
set_option linter.unusedVariables false
set_option linter.unusedSimpArgs false
mutual
def laws_FnExactDropWord.j0 : Nat → ByteArray → Bool → Bool → Bool → List (S81) → List (S76) → List (S76) → List (S76) → Option (Bool)
  | 0, _, _, _, _, _, _, _, _ => none
  | k + 1, x1, x7, x10, x47, x563000, x572000, x576000, x581000 => if x47 = true then (some false) else ((laws_toTrie.f k x563000).bind fun t582 => ((laws_eqTrie.f k x576000 t582).bind fun t585 => (if t585 = true then ((laws_markTrie.f k x576000 1).bind fun bt586 => (if bt586.1 < 0 then (laws_FnExactDropWord.j1 k x1 x7 true x563000 x572000 x581000) else ((laws_eqTrie.f k x581000 x572000).bind fun t588 => (if t588 = true then (laws_FnExactDropWord.j1 k x1 x7 (x10 != x7) x563000 x572000 x581000) else (laws_FnExactDropWord.j1 k x1 x7 true x563000 x572000 x581000))))) else (some false))))
def laws_FnExactDropWord.j1 : Nat → ByteArray → Bool → Bool → List (S81) → List (S76) → List (S76) → Option (Bool)
  | 0, _, _, _, _, _, _ => none
  | k + 1, x1, x7, x68, x563000, x572000, x581000 => if x68 = true then (some false) else ((laws_markTrie.f k x581000 1).bind fun bt589 => ((laws_heldTrie.f k bt589.2 1).bind fun t591 => (if t591 < 0 then (some false) else (if t591 = bt589.1 then ((laws_toTrie.f k x563000).bind fun t592 => ((impl_DropWord.f t592 x1).bind fun bt595 => ((laws_eqTrie.f k bt595.1 x572000).bind fun t600 => (if t600 = true then (laws_FnExactDropWord.j2 k bt589.1 (bt595.2 != x7) bt589.2) else (laws_FnExactDropWord.j2 k bt589.1 true bt589.2))))) else (some false)))))
def laws_FnExactDropWord.j2 : Nat → Int → Bool → List (S76) → Option (Bool)
  | 0, _, _, _ => none
  | k + 1, x12, x95, x581000 => if x95 = true then (some false) else ((laws_heldTrie.f k x581000 1).bind fun t601 => (if t601 < 0 then (some false) else (if t601 = x12 then (some true) else (some false))))
end
def laws_FnExactDropWord.f (k : Nat) (l0_0 : List (S81)) (a1 : ByteArray) : Option (Bool) := if (a1.size : Int) > 1048576 then (some true) else ((laws_szTrie.f l0_0 1048576).bind fun t563 => (if t563 < 0 then (some true) else ((laws_toTrie.f k l0_0).bind fun t564 => ((spec_DropWord.f k t564 a1).bind fun bt567 => ((laws_toTrie.f k l0_0).bind fun t572 => ((impl_DropWord.f t572 a1).bind fun bt576 => ((laws_eqTrie.f k bt576.1 bt567.1).bind fun t581 => (if t581 = true then (laws_FnExactDropWord.j0 k a1 bt567.2 bt576.2 (bt576.2 != bt567.2) l0_0 bt567.1 t572 bt576.1) else (laws_FnExactDropWord.j0 k a1 bt567.2 bt576.2 true l0_0 bt567.1 t572 bt576.1)))))))))
set_option maxHeartbeats 8000000 in
set_option maxRecDepth 100000 in
theorem laws_FnExactDropWord.calls (k : Nat) (A0_0 : Option Addr) (c0_0 : Nat) (l0_0 : List (S81)) (a1 : ByteArray) (r : Bool) (w : World) (hr0_0 : Kd.C k81 w A0_0 l0_0.length l0_0) (hc0_0 : l0_0.length ≤ c0_0) (h : laws_FnExactDropWord.f k l0_0 a1 = some true) :
    Calls Tryd.prog 7 #[.agg #[.slice A0_0 l0_0.length c0_0], .string a1] w fun e w' => e = .returned (.bool true) ∧ Below w.heap.size w w' := by
  have hu36 := Tryd.underlying36
  have hu26 := Tryd.underlying26
  have HR0_0 := Aside0.mk hr0_0
  have HC0_0 := Aside0.mk hc0_0
  clear hr0_0 hc0_0
  have HB := Aside0.mk (Below.refl w.heap.size w)
  have H : (if (a1.size : Int) > 1048576 then (some true) else ((laws_szTrie.f l0_0 1048576).bind fun t563 => (if t563 < 0 then (some true) else ((laws_toTrie.f k l0_0).bind fun t564 => ((spec_DropWord.f k t564 a1).bind fun bt567 => ((laws_toTrie.f k l0_0).bind fun t572 => ((impl_DropWord.f t572 a1).bind fun bt576 => ((laws_eqTrie.f k bt576.1 bt567.1).bind fun t581 => (if t581 = true then (laws_FnExactDropWord.j0 k a1 bt567.2 bt576.2 (bt576.2 != bt567.2) l0_0 bt567.1 t572 bt576.1) else (laws_FnExactDropWord.j0 k a1 bt567.2 bt576.2 true l0_0 bt567.1 t572 bt576.1)))))))))) = some true := h
  clear h
  by_cases c3 : (a1.size : Int) > 1048576
  · rw [if_pos c3] at H
    have c3b0 : decide (1048576 < (a1.size : Int)) = true := decide_eq_true c3
    have c3b1 : decide (1048576 < a1.size) = true := decide_eq_true (by omega)
    clear c3
    (first | (obtain rfl := Option.some.inj H) | (have hH_ := Option.some.inj H; try simp only [hH_]))
    go_enter Tryd.func7, Tryd.ntmps7
    go_wp2_with (first | ((with_reducible refine gate_dst (N := 2) rfl ?_); refine box_event ?hg (N := 2) ?hd (cs := #[.slice A0_0 l0_0.length c0_0]) (t := 36) ?hr ?_; (case hd => rfl); (case hg => rfl); (case hr => first | (go_simp; done) | (go_simp; rfl)); intro gb562 hg w4 hbox hb; have n0_ := Aside0.mk (below_step (by repeat (first | (with_reducible first | exact HB.out | apply below_alloc | apply pw_below_drewN | apply below_drew1) | exact HB.out)) hb); have n1_ := Aside0.mk (hbox); have n2_ := Aside0.mk ((by rw [hg]; exact (below_size (by repeat (first | (with_reducible first | exact HB.out | apply below_alloc | apply pw_below_drewN | apply below_drew1) | exact HB.out))) : w.heap.size ≤ gb562)); have n3_ := Aside0.mk ((by rw [hg]; exact (below_size (by repeat (first | (with_reducible first | exact HB.out | apply below_alloc | apply pw_below_drewN | apply below_drew1) | exact HB.out))) : w.heap.size ≤ gb562)); clear HB; have HB := n0_; have BK562 := n1_; have GW562 := n2_; have GE562 := n3_; clear n0_ n1_ n2_ n3_; clear hb hbox hg))
    go_ret
    exact ⟨by first | rfl | (simp [errW_none, errW_some] <;> rfl) | (simp [*, errW_none, errW_some] <;> rfl), by repeat (first | (with_reducible first | exact HB.out | apply below_alloc | apply pw_below_drewN | apply below_drew1 | refine below_set ?_ GE562.out) | exact HB.out)⟩
  · rw [if_neg c3] at H
    have c3b0 : decide (1048576 < (a1.size : Int)) = false := decide_eq_false c3
    have c3b1 : decide (1048576 < a1.size) = false := decide_eq_false (by omega)
    clear c3
    replace H := Option.bind_eq_some_iff.mp H
    obtain ⟨t563, A50, H⟩ := H
    replace H : (if t563 < 0 then (some true) else ((laws_toTrie.f k l0_0).bind fun t564 => ((spec_DropWord.f k t564 a1).bind fun bt567 => ((laws_toTrie.f k l0_0).bind fun t572 => ((impl_DropWord.f t572 a1).bind fun bt576 => ((laws_eqTrie.f k bt576.1 bt567.1).bind fun t581 => (if t581 = true then (laws_FnExactDropWord.j0 k a1 bt567.2 bt576.2 (bt576.2 != bt567.2) l0_0 bt567.1 t572 bt576.1) else (laws_FnExactDropWord.j0 k a1 bt567.2 bt576.2 true l0_0 bt567.1 t572 bt576.1)))))))) = some true := H
    have A5 := Aside0.mk A50
    clear A50
    by_cases c6 : t563 < 0
    · rw [if_pos c6] at H
      have c6b0 : decide (t563 < 0) = true := decide_eq_true c6
      clear c6
      (first | (obtain rfl := Option.some.inj H) | (have hH_ := Option.some.inj H; try simp only [hH_]))
      go_enter Tryd.func7, Tryd.ntmps7
      go_wp2_with (first | ((with_reducible refine gate_dst (N := 2) rfl ?_); refine box_event ?hg (N := 2) ?hd (cs := #[.slice A0_0 l0_0.length c0_0]) (t := 36) ?hr ?_; (case hd => rfl); (case hg => rfl); (case hr => first | (go_simp; done) | (go_simp; rfl)); intro gb562 hg w7 hbox hb; have n0_ := Aside0.mk (below_step (by repeat (first | (with_reducible first | exact HB.out | apply below_alloc | apply pw_below_drewN | apply below_drew1) | exact HB.out)) hb); have n1_ := Aside0.mk (hbox); have n2_ := Aside0.mk ((by rw [hg]; exact (below_size (by repeat (first | (with_reducible first | exact HB.out | apply below_alloc | apply pw_below_drewN | apply below_drew1) | exact HB.out))) : w.heap.size ≤ gb562)); have n3_ := Aside0.mk ((by rw [hg]; exact (below_size (by repeat (first | (with_reducible first | exact HB.out | apply below_alloc | apply pw_below_drewN | apply below_drew1) | exact HB.out))) : w.heap.size ≤ gb562)); clear HB; have HB := n0_; have BK562 := n1_; have GW562 := n2_; have GE562 := n3_; clear n0_ n1_ n2_ n3_; clear hb hbox hg; have hcz8_0 : w7.cell? ⟨gb562, 0, none⟩ = some (.slice A0_0 l0_0.length c0_0) := (blk_cell BK562.out 0).trans rfl; have hfz8_0 := blk_frozen BK562.out 0) | ((with_reducible refine gate_callee (f := 21) rfl ?_); refine goesL_ (some 21) rfl rfl Tryd.func21 (by kernel_rfl) rfl #[.agg #[.slice A0_0 l0_0.length c0_0], .int .i64 1048576] rfl (by (try simp only [List.map_toArray, List.map_cons, List.map_nil]); first | done | rfl | (simp only [List.length_drop, List.length_take]; rfl)) ?_; (with_reducible refine (laws_szTrie.calls _ _ l0_0 1048576 t563 _ ?side1 ?side2 A5.out).mono ?_); (case side1 => repeat (first | exact (Kd.C_below HR0_0.out HB.out) | (with_reducible refine Kd.C_alloc ?_ _) | (with_reducible refine Kd.C_drewN ?_ _) | (with_reducible refine Kd.C_drew ?_))); (case side2 => exact HC0_0.out); rintro e w9 ⟨rfl, hb⟩; refine ⟨_, rfl, ?_⟩; have n0_ := Aside0.mk (blk_below (g := gb562) (o := .cells #[.slice A0_0 l0_0.length c0_0] 36 (0, 0)) (by (with_reducible repeat (first | refine blk_drewN ?_ _ | refine blk_drew ?_ | refine blk_alloc ?_ _)); exact BK562.out) hb); have n1_ := Aside0.mk (below_step (by repeat (first | (with_reducible first | exact HB.out | apply below_alloc | apply pw_below_drewN | apply below_drew1 | refine below_set ?_ GE562.out) | exact HB.out)) hb); clear BK562; clear HB; have BK562 := n0_; have HB := n1_; clear n0_ n1_; (try clear hb); (try clear hb2); (try clear hk); (try clear hi)))
      go_ret
      exact ⟨by first | rfl | (simp [errW_none, errW_some] <;> rfl) | (simp [*, errW_none, errW_some] <;> rfl), by repeat (first | (with_reducible first | exact HB.out | apply below_alloc | apply pw_below_drewN | apply below_drew1 | refine below_set ?_ GE562.out) | exact HB.out)⟩
    · rw [if_neg c6] at H
      have c6b0 : decide (t563 < 0) = false := decide_eq_false c6
      clear c6
      replace H := Option.bind_eq_some_iff.mp H
      obtain ⟨t564, A100, H⟩ := H
      replace H : ((spec_DropWord.f k t564 a1).bind fun bt567 => ((laws_toTrie.f k l0_0).bind fun t572 => ((impl_DropWord.f t572 a1).bind fun bt576 => ((laws_eqTrie.f k bt576.1 bt567.1).bind fun t581 => (if t581 = true then (laws_FnExactDropWord.j0 k a1 bt567.2 bt576.2 (bt576.2 != bt567.2) l0_0 bt567.1 t572 bt576.1) else (laws_FnExactDropWord.j0 k a1 bt567.2 bt576.2 true l0_0 bt567.1 t572 bt576.1)))))) = some true := H
      have A10 := Aside0.mk A100
      clear A100
      replace H := Option.bind_eq_some_iff.mp H
      obtain ⟨⟨t567, t570⟩, A110, H⟩ := H
      replace H : ((laws_toTrie.f k l0_0).bind fun t572 => ((impl_DropWord.f t572 a1).bind fun bt576 => ((laws_eqTrie.f k bt576.1 t567).bind fun t581 => (if t581 = true then (laws_FnExactDropWord.j0 k a1 t570 bt576.2 (bt576.2 != t570) l0_0 t567 t572 bt576.1) else (laws_FnExactDropWord.j0 k a1 t570 bt576.2 true l0_0 t567 t572 bt576.1))))) = some true := H
      have A11 := Aside0.mk A110
      clear A110
      replace H := Option.bind_eq_some_iff.mp H
      obtain ⟨t572, A120, H⟩ := H
      replace H : ((impl_DropWord.f t572 a1).bind fun bt576 => ((laws_eqTrie.f k bt576.1 t567).bind fun t581 => (if t581 = true then (laws_FnExactDropWord.j0 k a1 t570 bt576.2 (bt576.2 != t570) l0_0 t567 t572 bt576.1) else (laws_FnExactDropWord.j0 k a1 t570 bt576.2 true l0_0 t567 t572 bt576.1)))) = some true := H
      have A12 := Aside0.mk A120
      clear A120
      replace H := Option.bind_eq_some_iff.mp H
      obtain ⟨⟨t576, t579⟩, A130, H⟩ := H
      replace H : ((laws_eqTrie.f k t576 t567).bind fun t581 => (if t581 = true then (laws_FnExactDropWord.j0 k a1 t570 t579 (t579 != t570) l0_0 t567 t572 t576) else (laws_FnExactDropWord.j0 k a1 t570 t579 true l0_0 t567 t572 t576))) = some true := H
      have A13 := Aside0.mk A130
      clear A130
      have HC14 := Aside0.mk H
      clear H
      go_enter Tryd.func7, Tryd.ntmps7
      go_upto_region 10 with (first | ((with_reducible refine gate_dst (N := 2) rfl ?_); refine box_event ?hg (N := 2) ?hd (cs := #[.slice A0_0 l0_0.length c0_0]) (t := 36) ?hr ?_; (case hd => rfl); (case hg => rfl); (case hr => first | (go_simp; done) | (go_simp; rfl)); intro gb562 hg w15 hbox hb; have n0_ := Aside0.mk (below_step (by repeat (first | (with_reducible first | exact HB.out | apply below_alloc | apply pw_below_drewN | apply below_drew1) | exact HB.out)) hb); have n1_ := Aside0.mk (hbox); have n2_ := Aside0.mk ((by rw [hg]; exact (below_size (by repeat (first | (with_reducible first | exact HB.out | apply below_alloc | apply pw_below_drewN | apply below_drew1) | exact HB.out))) : w.heap.size ≤ gb562)); have n3_ := Aside0.mk ((by rw [hg]; exact (below_size (by repeat (first | (with_reducible first | exact HB.out | apply below_alloc | apply pw_below_drewN | apply below_drew1) | exact HB.out))) : w.heap.size ≤ gb562)); clear HB; have HB := n0_; have BK562 := n1_; have GW562 := n2_; have GE562 := n3_; clear n0_ n1_ n2_ n3_; clear hb hbox hg; have hcz16_0 : w15.cell? ⟨gb562, 0, none⟩ = some (.slice A0_0 l0_0.length c0_0) := (blk_cell BK562.out 0).trans rfl; have hfz16_0 := blk_frozen BK562.out 0) | ((with_reducible refine gate_callee (f := 21) rfl ?_); refine goesL_ (some 21) rfl rfl Tryd.func21 (by kernel_rfl) rfl #[.agg #[.slice A0_0 l0_0.length c0_0], .int .i64 1048576] rfl (by (try simp only [List.map_toArray, List.map_cons, List.map_nil]); first | done | rfl | (simp only [List.length_drop, List.length_take]; rfl)) ?_; (with_reducible refine (laws_szTrie.calls _ _ l0_0 1048576 t563 _ ?side1 ?side2 A5.out).mono ?_); (case side1 => repeat (first | exact (Kd.C_below HR0_0.out HB.out) | (with_reducible refine Kd.C_alloc ?_ _) | (with_reducible refine Kd.C_drewN ?_ _) | (with_reducible refine Kd.C_drew ?_))); (case side2 => exact HC0_0.out); rintro e w17 ⟨rfl, hb⟩; refine ⟨_, rfl, ?_⟩; have n0_ := Aside0.mk (blk_below (g := gb562) (o := .cells #[.slice A0_0 l0_0.length c0_0] 36 (0, 0)) (by (with_reducible repeat (first | refine blk_drewN ?_ _ | refine blk_drew ?_ | refine blk_alloc ?_ _)); exact BK562.out) hb); have n1_ := Aside0.mk (below_step (by repeat (first | (with_reducible first | exact HB.out | apply below_alloc | apply pw_below_drewN | apply below_drew1 | refine below_set ?_ GE562.out) | exact HB.out)) hb); clear BK562; clear HB; have BK562 := n0_; have HB := n1_; clear n0_ n1_; (try clear hb); (try clear hb2); (try clear hk); (try clear hi); have hcz18_0 : w17.cell? ⟨gb562, 0, none⟩ = some (.slice A0_0 l0_0.length c0_0) := (blk_cell BK562.out 0).trans rfl; have hfz18_0 := blk_frozen BK562.out 0) | ((with_reducible refine gate_callee (f := 23) rfl ?_); refine goesL_ (some 26) rfl rfl Tryd.func23 (by kernel_rfl) rfl #[.agg #[.slice A0_0 l0_0.length c0_0]] rfl (by (try simp only [List.map_toArray, List.map_cons, List.map_nil]); first | done | rfl | (simp only [List.length_drop, List.length_take]; rfl)) ?_; (with_reducible refine (laws_toTrie.calls k _ _ l0_0 t564 _ ?side1 ?side2 A10.out).mono ?_); (case side1 => repeat (first | exact (Kd.C_below HR0_0.out HB.out) | (with_reducible refine Kd.C_alloc ?_ _) | (with_reducible refine Kd.C_drewN ?_ _) | (with_reducible refine Kd.C_drew ?_))); (case side2 => exact HC0_0.out); rintro e w19 ⟨v565, rfl, ho0, hb⟩; refine ⟨_, rfl, ?_⟩; have n0_ := Aside0.mk (Kd.R_lower ho0 (below_size (by repeat (first | (with_reducible first | exact HB.out | apply below_alloc | apply pw_below_drewN | apply below_drew1 | refine below_set ?_ GE562.out) | exact HB.out)))); have n1_ := Aside0.mk (blk_below (g := gb562) (o := .cells #[.slice A0_0 l0_0.length c0_0] 36 (0, 0)) (by (with_reducible repeat (first | refine blk_drewN ?_ _ | refine blk_drew ?_ | refine blk_alloc ?_ _)); exact BK562.out) hb); have n2_ := Aside0.mk (below_step (by repeat (first | (with_reducible first | exact HB.out | apply below_alloc | apply pw_below_drewN | apply below_drew1 | refine below_set ?_ GE562.out) | exact HB.out)) hb); clear BK562; clear HB; have HO566 := n0_; have BK562 := n1_; have HB := n2_; clear n0_ n1_ n2_; (try clear hb); (try clear hb2); (try clear hk); (try clear hi); (try clear ho0); obtain ⟨Ao20, co20, eo20⟩ := Kd.R_slice HO566.out; subst eo20) | ((with_reducible refine gate_callee (f := 29) rfl ?_); refine goesL_ (some 28) rfl rfl Tryd.func29 (by kernel_rfl) rfl #[.agg #[.slice Ao20 t564.length co20], .string a1] rfl (by (try simp only [List.map_toArray, List.map_cons, List.map_nil]); first | done | rfl | (simp only [List.length_drop, List.length_take]; rfl)) ?_; (with_reducible refine (spec_DropWord.calls k _ _ t564 a1 t567 t570 _ ?side1 ?side2 A11.out).mono ?_); (case side1 => repeat (first | exact (Kd.R_reads' HO566.out).2.2 | (with_reducible refine Kd.C_alloc ?_ _) | (with_reducible refine Kd.C_drewN ?_ _) | (with_reducible refine Kd.C_drew ?_))); (case side2 => exact (Kd.R_reads' HO566.out).2.1); rintro e w21 ⟨v568, rfl, ho0, hb⟩; refine ⟨_, rfl, ?_⟩; have n0_ := Aside0.mk (Kd.R_elder' (by (with_reducible repeat (first | apply Kd.R_alloc | apply Kd.R_drewN | apply Kd.R_drew)); exact HO566.out) (Kd.R_base ho0) hb); have n1_ := Aside0.mk (Kd.R_lower (Kd.R_new' ho0 (Kd.R_lt (by (with_reducible repeat (first | apply Kd.R_alloc | apply Kd.R_drewN | apply Kd.R_drew)); exact HO566.out))) (below_size (by repeat (first | (with_reducible first | exact HB.out | apply below_alloc | apply pw_below_drewN | apply below_drew1 | refine below_set ?_ GE562.out) | exact HB.out)))); have n2_ := Aside0.mk (blk_below (g := gb562) (o := .cells #[.slice A0_0 l0_0.length c0_0] 36 (0, 0)) (by (with_reducible repeat (first | refine blk_drewN ?_ _ | refine blk_drew ?_ | refine blk_alloc ?_ _)); exact BK562.out) hb); have n3_ := Aside0.mk (below_step (by repeat (first | (with_reducible first | exact HB.out | apply below_alloc | apply pw_below_drewN | apply below_drew1 | refine below_set ?_ GE562.out) | exact HB.out)) hb); clear HO566; clear BK562; clear HB; have HO566 := n0_; have HO569 := n1_; have BK562 := n2_; have HB := n3_; clear n0_ n1_ n2_ n3_; (try clear hb); (try clear hb2); (try clear hk); (try clear hi); (try clear ho0)) | ((with_reducible refine gate_dst (N := 6) rfl ?_); refine box_event ?hg (N := 6) ?hd (cs := #[.slice none 0 0]) (t := 26) ?hr ?_; (case hd => rfl); (case hg => rfl); (case hr => first | (go_simp; done) | (go_simp; rfl)); intro gb571 hg w22 hbox hb; have n0_ := Aside0.mk (Kd.R_below (by (with_reducible repeat (first | apply Kd.R_alloc | apply Kd.R_drewN | apply Kd.R_drew)); exact HO566.out) hb); have n1_ := Aside0.mk (Kd.R_below (by (with_reducible repeat (first | apply Kd.R_alloc | apply Kd.R_drewN | apply Kd.R_drew)); exact HO569.out) hb); have n2_ := Aside0.mk (blk_below (g := gb562) (o := .cells #[.slice A0_0 l0_0.length c0_0] 36 (0, 0)) (by (with_reducible repeat (first | refine blk_drewN ?_ _ | refine blk_drew ?_ | refine blk_alloc ?_ _)); exact BK562.out) hb); have n3_ := Aside0.mk (below_step (by repeat (first | (with_reducible first | exact HB.out | apply below_alloc | apply pw_below_drewN | apply below_drew1 | refine below_set ?_ GE562.out) | exact HB.out)) hb); have n4_ := Aside0.mk (hbox); have n5_ := Aside0.mk ((by rw [hg]; exact (below_size (by repeat (first | (with_reducible first | exact HB.out | apply below_alloc | apply pw_below_drewN | apply below_drew1 | refine below_set ?_ GE562.out) | exact HB.out))) : w.heap.size ≤ gb571)); have n6_ := Aside0.mk ((by rw [hg]; exact (below_size (by repeat (first | (with_reducible first | exact HB.out | apply below_alloc | apply pw_below_drewN | apply below_drew1 | refine below_set ?_ GE562.out) | exact HB.out))) : w.heap.size ≤ gb571)); have n7_ := Aside0.mk ((by rw [hg]; exact Nat.ne_of_lt (blk_lt (g := gb562) (o := .cells #[.slice A0_0 l0_0.length c0_0] 36 (0, 0)) (by (with_reducible repeat (first | refine blk_drewN ?_ _ | refine blk_drew ?_ | refine blk_alloc ?_ _)); exact BK562.out)) : gb562 ≠ gb571)); have n8_ := Aside0.mk ((by rw [hg]; exact Nat.ne_of_gt (blk_lt (g := gb562) (o := .cells #[.slice A0_0 l0_0.length c0_0] 36 (0, 0)) (by (with_reducible repeat (first | refine blk_drewN ?_ _ | refine blk_drew ?_ | refine blk_alloc ?_ _)); exact BK562.out)) : gb571 ≠ gb562)); clear HO566; clear HO569; clear BK562; clear HB; have HO566 := n0_; have HO569 := n1_; have BK562 := n2_; have HB := n3_; have BK571 := n4_; have GW571 := n5_; have GE571 := n6_; have NB562_571 := n7_; have NB571_562 := n8_; clear n0_ n1_ n2_ n3_ n4_ n5_ n6_ n7_ n8_; clear hb hbox hg; obtain ⟨Ao23, co23, eo23⟩ := Kd.R_slice HO569.out; subst eo23; have hnb24 := NB571_562.out; have hnc24 := NB562_571.out; have hcz25_0 : w22.cell? ⟨gb571, 0, none⟩ = some (.slice none 0 0) := (blk_cell BK571.out 0).trans rfl; have hfz25_0 := blk_frozen BK571.out 0; have hcz26_0 : w22.cell? ⟨gb562, 0, none⟩ = some (.slice A0_0 l0_0.length c0_0) := (blk_cell BK562.out 0).trans rfl; have hfz26_0 := blk_frozen BK562.out 0) | ((with_reducible refine gate_callee (f := 23) rfl ?_); refine goesL_ (some 32) rfl rfl Tryd.func23 (by kernel_rfl) rfl #[.agg #[.slice A0_0 l0_0.length c0_0]] rfl (by (try simp only [List.map_toArray, List.map_cons, List.map_nil]); first | done | rfl | (simp only [List.length_drop, List.length_take]; rfl)) ?_; (with_reducible refine (laws_toTrie.calls k _ _ l0_0 t572 _ ?side1 ?side2 A12.out).mono ?_); (case side1 => exact Kd.C_below HR0_0.out (by repeat (first | (with_reducible first | exact HB.out | apply below_alloc | apply pw_below_drewN | apply below_drew1 | refine below_set ?_ GE562.out | refine below_set ?_ GE571.out) | exact HB.out))); (case side2 => exact HC0_0.out); rintro e w27 ⟨v573, rfl, ho0, hb⟩; refine ⟨_, rfl, ?_⟩; have n0_ := Aside0.mk (Kd.R_elder' (by (with_reducible repeat (first | apply Kd.R_alloc | apply Kd.R_drewN | apply Kd.R_drew)); exact (Kd.R_mono (R_same_ (Kd.R_far (p := ⟨gb571, 0, none⟩) (Kd.R_types HO566.out BK571.out (by decide)) (fun _ hk => hk.2) (.slice Ao23 t567.length co23)) rfl) (fun _ h_ => h_.1))) (Kd.R_base ho0) hb); have n1_ := Aside0.mk (Kd.R_elder' (by (with_reducible repeat (first | apply Kd.R_alloc | apply Kd.R_drewN | apply Kd.R_drew)); exact (Kd.R_mono (R_same_ (Kd.R_far (p := ⟨gb571, 0, none⟩) (Kd.R_types HO569.out BK571.out (by decide)) (fun _ hk => hk.2) (.slice Ao23 t567.length co23)) rfl) (fun _ h_ => h_.1))) (Kd.R_base ho0) hb); have n2_ := Aside0.mk (Kd.R_lower (Kd.R_new' (Kd.R_new' ho0 (Kd.R_lt (by (with_reducible repeat (first | apply Kd.R_alloc | apply Kd.R_drewN | apply Kd.R_drew)); exact (Kd.R_mono (R_same_ (Kd.R_far (p := ⟨gb571, 0, none⟩) (Kd.R_types HO566.out BK571.out (by decide)) (fun _ hk => hk.2) (.slice Ao23 t567.length co23)) rfl) (fun _ h_ => h_.1))))) (Kd.R_lt (by (with_reducible repeat (first | apply Kd.R_alloc | apply Kd.R_drewN | apply Kd.R_drew)); exact (Kd.R_mono (R_same_ (Kd.R_far (p := ⟨gb571, 0, none⟩) (Kd.R_types HO569.out BK571.out (by decide)) (fun _ hk => hk.2) (.slice Ao23 t567.length co23)) rfl) (fun _ h_ => h_.1))))) (below_size (by repeat (first | (with_reducible first | exact HB.out | apply below_alloc | apply pw_below_drewN | apply below_drew1 | refine below_set ?_ GE562.out | refine below_set ?_ GE571.out) | exact HB.out)))); have n3_ := Aside0.mk (blk_below (g := gb562) (o := .cells #[.slice A0_0 l0_0.length c0_0] 36 (0, 0)) (by (with_reducible repeat (first | refine blk_drewN ?_ _ | refine blk_drew ?_ | refine blk_alloc ?_ _)); refine blk_far ?_ NB562_571.out _; (with_reducible repeat (first | refine blk_drewN ?_ _ | refine blk_drew ?_ | refine blk_alloc ?_ _)); exact BK562.out) hb); have n4_ := Aside0.mk (blk_below (g := gb571) (o := .cells #[.slice Ao23 t567.length co23] 26 (0, 0)) (by (with_reducible repeat (first | refine blk_drewN ?_ _ | refine blk_drew ?_ | refine blk_alloc ?_ _)); refine blk_put (cs := #[.slice none 0 0]) ?_ 0 _ rfl; (with_reducible repeat (first | refine blk_drewN ?_ _ | refine blk_drew ?_ | refine blk_alloc ?_ _)); exact BK571.out) hb); have n5_ := Aside0.mk (below_step (by repeat (first | (with_reducible first | exact HB.out | apply below_alloc | apply pw_below_drewN | apply below_drew1 | refine below_set ?_ GE562.out | refine below_set ?_ GE571.out) | exact HB.out)) hb); clear HO566; clear HO569; clear BK562; clear BK571; clear HB; have HO566 := n0_; have HO569 := n1_; have HO574 := n2_; have BK562 := n3_; have BK571 := n4_; have HB := n5_; clear n0_ n1_ n2_ n3_ n4_ n5_; (try clear hb); (try clear hb2); (try clear hk); (try clear hi); (try clear ho0)) | ((with_reducible refine gate_dst (N := 8) rfl ?_); refine box_event ?hg (N := 8) ?hd (cs := #[.slice none 0 0]) (t := 26) ?hr ?_; (case hd => rfl); (case hg => rfl); (case hr => first | (go_simp; done) | (go_simp; rfl)); intro gb575 hg w28 hbox hb; have n0_ := Aside0.mk (Kd.R_below (by (with_reducible repeat (first | apply Kd.R_alloc | apply Kd.R_drewN | apply Kd.R_drew)); exact HO566.out) hb); have n1_ := Aside0.mk (Kd.R_below (by (with_reducible repeat (first | apply Kd.R_alloc | apply Kd.R_drewN | apply Kd.R_drew)); exact HO569.out) hb); have n2_ := Aside0.mk (Kd.R_below (by (with_reducible repeat (first | apply Kd.R_alloc | apply Kd.R_drewN | apply Kd.R_drew)); exact HO574.out) hb); have n3_ := Aside0.mk (blk_below (g := gb562) (o := .cells #[.slice A0_0 l0_0.length c0_0] 36 (0, 0)) (by (with_reducible repeat (first | refine blk_drewN ?_ _ | refine blk_drew ?_ | refine blk_alloc ?_ _)); exact BK562.out) hb); have n4_ := Aside0.mk (blk_below (g := gb571) (o := .cells #[.slice Ao23 t567.length co23] 26 (0, 0)) (by (with_reducible repeat (first | refine blk_drewN ?_ _ | refine blk_drew ?_ | refine blk_alloc ?_ _)); exact BK571.out) hb); have n5_ := Aside0.mk (below_step (by repeat (first | (with_reducible first | exact HB.out | apply below_alloc | apply pw_below_drewN | apply below_drew1 | refine below_set ?_ GE562.out | refine below_set ?_ GE571.out) | exact HB.out)) hb); have n6_ := Aside0.mk (hbox); have n7_ := Aside0.mk ((by rw [hg]; exact (below_size (by repeat (first | (with_reducible first | exact HB.out | apply below_alloc | apply pw_below_drewN | apply below_drew1 | refine below_set ?_ GE562.out | refine below_set ?_ GE571.out) | exact HB.out))) : w.heap.size ≤ gb575)); have n8_ := Aside0.mk ((by rw [hg]; exact (below_size (by repeat (first | (with_reducible first | exact HB.out | apply below_alloc | apply pw_below_drewN | apply below_drew1 | refine below_set ?_ GE562.out | refine below_set ?_ GE571.out) | exact HB.out))) : w.heap.size ≤ gb575)); have n9_ := Aside0.mk ((by rw [hg]; exact Nat.ne_of_lt (blk_lt (g := gb562) (o := .cells #[.slice A0_0 l0_0.length c0_0] 36 (0, 0)) (by (with_reducible repeat (first | refine blk_drewN ?_ _ | refine blk_drew ?_ | refine blk_alloc ?_ _)); exact BK562.out)) : gb562 ≠ gb575)); have n10_ := Aside0.mk ((by rw [hg]; exact Nat.ne_of_gt (blk_lt (g := gb562) (o := .cells #[.slice A0_0 l0_0.length c0_0] 36 (0, 0)) (by (with_reducible repeat (first | refine blk_drewN ?_ _ | refine blk_drew ?_ | refine blk_alloc ?_ _)); exact BK562.out)) : gb575 ≠ gb562)); have n11_ := Aside0.mk ((by rw [hg]; exact Nat.ne_of_lt (blk_lt (g := gb571) (o := .cells #[.slice Ao23 t567.length co23] 26 (0, 0)) (by (with_reducible repeat (first | refine blk_drewN ?_ _ | refine blk_drew ?_ | refine blk_alloc ?_ _)); exact BK571.out)) : gb571 ≠ gb575)); have n12_ := Aside0.mk ((by rw [hg]; exact Nat.ne_of_gt (blk_lt (g := gb571) (o := .cells #[.slice Ao23 t567.length co23] 26 (0, 0)) (by (with_reducible repeat (first | refine blk_drewN ?_ _ | refine blk_drew ?_ | refine blk_alloc ?_ _)); exact BK571.out)) : gb575 ≠ gb571)); clear HO566; clear HO569; clear HO574; clear BK562; clear BK571; clear HB; have HO566 := n0_; have HO569 := n1_; have HO574 := n2_; have BK562 := n3_; have BK571 := n4_; have HB := n5_; have BK575 := n6_; have GW575 := n7_; have GE575 := n8_; have NB562_575 := n9_; have NB575_562 := n10_; have NB571_575 := n11_; have NB575_571 := n12_; clear n0_ n1_ n2_ n3_ n4_ n5_ n6_ n7_ n8_ n9_ n10_ n11_ n12_; clear hb hbox hg; obtain ⟨Ao29, co29, eo29⟩ := Kd.R_slice HO574.out; subst eo29; have hnb30 := NB575_562.out; have hnc30 := NB562_575.out; have hnb31 := NB575_571.out; have hnc31 := NB571_575.out; have hcz32_0 : w28.cell? ⟨gb575, 0, none⟩ = some (.slice none 0 0) := (blk_cell BK575.out 0).trans rfl; have hfz32_0 := blk_frozen BK575.out 0) | ((with_reducible refine gate_callee (f := 30) rfl ?_); refine goesL_ (some 36) rfl rfl Tryd.func30 (by kernel_rfl) rfl #[.agg #[.slice Ao29 t572.length co29], .string a1] rfl (by (try simp only [List.map_toArray, List.map_cons, List.map_nil]); first | done | rfl | (simp only [List.length_drop, List.length_take]; rfl)) ?_; (with_reducible refine (impl_DropWord.calls _ _ t572 a1 t576 t579 _ ?side1 ?side2 A13.out).mono ?_); (case side1 => refine (Kd.R_reads' (e := 76) (base := w.heap.size) (ok := fun k_ => ((True ∧ some k_ ≠ (.slice Ao20 t564.length co20 : Value).ownBlock) ∧ some k_ ≠ (.slice Ao23 t567.length co23 : Value).ownBlock)) (n := t572.length) (c := co29) ?_).2.2; exact (by (with_reducible repeat (first | apply Kd.R_alloc | apply Kd.R_drewN | apply Kd.R_drew)); exact (Kd.R_mono (R_same_ (Kd.R_far (p := ⟨gb575, 0, none⟩) (Kd.R_types HO574.out BK575.out (by decide)) (fun _ hk => hk.2) (.slice Ao29 t572.length co29)) rfl) (fun _ h_ => h_.1)))); (case side2 => exact (Kd.R_reads' HO574.out).2.1); rintro e w33 ⟨v577, rfl, ho0, hb⟩; refine ⟨_, rfl, ?_⟩; have n0_ := Aside0.mk (Kd.R_elder' (by (with_reducible repeat (first | apply Kd.R_alloc | apply Kd.R_drewN | apply Kd.R_drew)); exact (Kd.R_mono (R_same_ (Kd.R_far (p := ⟨gb575, 0, none⟩) (Kd.R_types HO566.out BK575.out (by decide)) (fun _ hk => hk.2) (.slice Ao29 t572.length co29)) rfl) (fun _ h_ => h_.1))) (Kd.R_base ho0) hb); have n1_ := Aside0.mk (Kd.R_elder' (by (with_reducible repeat (first | apply Kd.R_alloc | apply Kd.R_drewN | apply Kd.R_drew)); exact (Kd.R_mono (R_same_ (Kd.R_far (p := ⟨gb575, 0, none⟩) (Kd.R_types HO569.out BK575.out (by decide)) (fun _ hk => hk.2) (.slice Ao29 t572.length co29)) rfl) (fun _ h_ => h_.1))) (Kd.R_base ho0) hb); have n2_ := Aside0.mk (Kd.R_elder' (by (with_reducible repeat (first | apply Kd.R_alloc | apply Kd.R_drewN | apply Kd.R_drew)); exact (Kd.R_mono (R_same_ (Kd.R_far (p := ⟨gb575, 0, none⟩) (Kd.R_types HO574.out BK575.out (by decide)) (fun _ hk => hk.2) (.slice Ao29 t572.length co29)) rfl) (fun _ h_ => h_.1))) (Kd.R_base ho0) hb); have n3_ := Aside0.mk (Kd.R_lower (Kd.R_new' (Kd.R_new' (Kd.R_new' ho0 (Kd.R_lt (by (with_reducible repeat (first | apply Kd.R_alloc | apply Kd.R_drewN | apply Kd.R_drew)); exact (Kd.R_mono (R_same_ (Kd.R_far (p := ⟨gb575, 0, none⟩) (Kd.R_types HO566.out BK575.out (by decide)) (fun _ hk => hk.2) (.slice Ao29 t572.length co29)) rfl) (fun _ h_ => h_.1))))) (Kd.R_lt (by (with_reducible repeat (first | apply Kd.R_alloc | apply Kd.R_drewN | apply Kd.R_drew)); exact (Kd.R_mono (R_same_ (Kd.R_far (p := ⟨gb575, 0, none⟩) (Kd.R_types HO569.out BK575.out (by decide)) (fun _ hk => hk.2) (.slice Ao29 t572.length co29)) rfl) (fun _ h_ => h_.1))))) (Kd.R_lt (by (with_reducible repeat (first | apply Kd.R_alloc | apply Kd.R_drewN | apply Kd.R_drew)); exact (Kd.R_mono (R_same_ (Kd.R_far (p := ⟨gb575, 0, none⟩) (Kd.R_types HO574.out BK575.out (by decide)) (fun _ hk => hk.2) (.slice Ao29 t572.length co29)) rfl) (fun _ h_ => h_.1))))) (below_size (by repeat (first | (with_reducible first | exact HB.out | apply below_alloc | apply pw_below_drewN | apply below_drew1 | refine below_set ?_ GE562.out | refine below_set ?_ GE571.out | refine below_set ?_ GE575.out) | exact HB.out)))); have n4_ := Aside0.mk (blk_below (g := gb562) (o := .cells #[.slice A0_0 l0_0.length c0_0] 36 (0, 0)) (by (with_reducible repeat (first | refine blk_drewN ?_ _ | refine blk_drew ?_ | refine blk_alloc ?_ _)); refine blk_far ?_ NB562_575.out _; (with_reducible repeat (first | refine blk_drewN ?_ _ | refine blk_drew ?_ | refine blk_alloc ?_ _)); exact BK562.out) hb); have n5_ := Aside0.mk (blk_below (g := gb571) (o := .cells #[.slice Ao23 t567.length co23] 26 (0, 0)) (by (with_reducible repeat (first | refine blk_drewN ?_ _ | refine blk_drew ?_ | refine blk_alloc ?_ _)); refine blk_far ?_ NB571_575.out _; (with_reducible repeat (first | refine blk_drewN ?_ _ | refine blk_drew ?_ | refine blk_alloc ?_ _)); exact BK571.out) hb); have n6_ := Aside0.mk (blk_below (g := gb575) (o := .cells #[.slice Ao29 t572.length co29] 26 (0, 0)) (by (with_reducible repeat (first | refine blk_drewN ?_ _ | refine blk_drew ?_ | refine blk_alloc ?_ _)); refine blk_put (cs := #[.slice none 0 0]) ?_ 0 _ rfl; (with_reducible repeat (first | refine blk_drewN ?_ _ | refine blk_drew ?_ | refine blk_alloc ?_ _)); exact BK575.out) hb); have n7_ := Aside0.mk (below_step (by repeat (first | (with_reducible first | exact HB.out | apply below_alloc | apply pw_below_drewN | apply below_drew1 | refine below_set ?_ GE562.out | refine below_set ?_ GE571.out | refine below_set ?_ GE575.out) | exact HB.out)) hb); clear HO566; clear HO569; clear HO574; clear BK562; clear BK571; clear BK575; clear HB; have HO566 := n0_; have HO569 := n1_; have HO574 := n2_; have HO578 := n3_; have BK562 := n4_; have BK571 := n5_; have BK575 := n6_; have HB := n7_; clear n0_ n1_ n2_ n3_ n4_ n5_ n6_ n7_; (try clear hb); (try clear hb2); (try clear hk); (try clear hi); (try clear ho0)) | ((with_reducible refine gate_dst (N := 9) rfl ?_); refine box_event ?hg (N := 9) ?hd (cs := #[.slice none 0 0]) (t := 26) ?hr ?_; (case hd => rfl); (case hg => rfl); (case hr => first | (go_simp; done) | (go_simp; rfl)); intro gb580 hg w34 hbox hb; have n0_ := Aside0.mk (Kd.R_below (by (with_reducible repeat (first | apply Kd.R_alloc | apply Kd.R_drewN | apply Kd.R_drew)); exact HO566.out) hb); have n1_ := Aside0.mk (Kd.R_below (by (with_reducible repeat (first | apply Kd.R_alloc | apply Kd.R_drewN | apply Kd.R_drew)); exact HO569.out) hb); have n2_ := Aside0.mk (Kd.R_below (by (with_reducible repeat (first | apply Kd.R_alloc | apply Kd.R_drewN | apply Kd.R_drew)); exact HO574.out) hb); have n3_ := Aside0.mk (Kd.R_below (by (with_reducible repeat (first | apply Kd.R_alloc | apply Kd.R_drewN | apply Kd.R_drew)); exact HO578.out) hb); have n4_ := Aside0.mk (blk_below (g := gb562) (o := .cells #[.slice A0_0 l0_0.length c0_0] 36 (0, 0)) (by (with_reducible repeat (first | refine blk_drewN ?_ _ | refine blk_drew ?_ | refine blk_alloc ?_ _)); exact BK562.out) hb); have n5_ := Aside0.mk (blk_below (g := gb571) (o := .cells #[.slice Ao23 t567.length co23] 26 (0, 0)) (by (with_reducible repeat (first | refine blk_drewN ?_ _ | refine blk_drew ?_ | refine blk_alloc ?_ _)); exact BK571.out) hb); have n6_ := Aside0.mk (blk_below (g := gb575) (o := .cells #[.slice Ao29 t572.length co29] 26 (0, 0)) (by (with_reducible repeat (first | refine blk_drewN ?_ _ | refine blk_drew ?_ | refine blk_alloc ?_ _)); exact BK575.out) hb); have n7_ := Aside0.mk (below_step (by repeat (first | (with_reducible first | exact HB.out | apply below_alloc | apply pw_below_drewN | apply below_drew1 | refine below_set ?_ GE562.out | refine below_set ?_ GE571.out | refine below_set ?_ GE575.out) | exact HB.out)) hb); have n8_ := Aside0.mk (hbox); have n9_ := Aside0.mk ((by rw [hg]; exact (below_size (by repeat (first | (with_reducible first | exact HB.out | apply below_alloc | apply pw_below_drewN | apply below_drew1 | refine below_set ?_ GE562.out | refine below_set ?_ GE571.out | refine below_set ?_ GE575.out) | exact HB.out))) : w.heap.size ≤ gb580)); have n10_ := Aside0.mk ((by rw [hg]; exact (below_size (by repeat (first | (with_reducible first | exact HB.out | apply below_alloc | apply pw_below_drewN | apply below_drew1 | refine below_set ?_ GE562.out | refine below_set ?_ GE571.out | refine below_set ?_ GE575.out) | exact HB.out))) : w.heap.size ≤ gb580)); have n11_ := Aside0.mk ((by rw [hg]; exact Nat.ne_of_lt (blk_lt (g := gb562) (o := .cells #[.slice A0_0 l0_0.length c0_0] 36 (0, 0)) (by (with_reducible repeat (first | refine blk_drewN ?_ _ | refine blk_drew ?_ | refine blk_alloc ?_ _)); exact BK562.out)) : gb562 ≠ gb580)); have n12_ := Aside0.mk ((by rw [hg]; exact Nat.ne_of_gt (blk_lt (g := gb562) (o := .cells #[.slice A0_0 l0_0.length c0_0] 36 (0, 0)) (by (with_reducible repeat (first | refine blk_drewN ?_ _ | refine blk_drew ?_ | refine blk_alloc ?_ _)); exact BK562.out)) : gb580 ≠ gb562)); have n13_ := Aside0.mk ((by rw [hg]; exact Nat.ne_of_lt (blk_lt (g := gb571) (o := .cells #[.slice Ao23 t567.length co23] 26 (0, 0)) (by (with_reducible repeat (first | refine blk_drewN ?_ _ | refine blk_drew ?_ | refine blk_alloc ?_ _)); exact BK571.out)) : gb571 ≠ gb580)); have n14_ := Aside0.mk ((by rw [hg]; exact Nat.ne_of_gt (blk_lt (g := gb571) (o := .cells #[.slice Ao23 t567.length co23] 26 (0, 0)) (by (with_reducible repeat (first | refine blk_drewN ?_ _ | refine blk_drew ?_ | refine blk_alloc ?_ _)); exact BK571.out)) : gb580 ≠ gb571)); have n15_ := Aside0.mk ((by rw [hg]; exact Nat.ne_of_lt (blk_lt (g := gb575) (o := .cells #[.slice Ao29 t572.length co29] 26 (0, 0)) (by (with_reducible repeat (first | refine blk_drewN ?_ _ | refine blk_drew ?_ | refine blk_alloc ?_ _)); exact BK575.out)) : gb575 ≠ gb580)); have n16_ := Aside0.mk ((by rw [hg]; exact Nat.ne_of_gt (blk_lt (g := gb575) (o := .cells #[.slice Ao29 t572.length co29] 26 (0, 0)) (by (with_reducible repeat (first | refine blk_drewN ?_ _ | refine blk_drew ?_ | refine blk_alloc ?_ _)); exact BK575.out)) : gb580 ≠ gb575)); clear HO566; clear HO569; clear HO574; clear HO578; clear BK562; clear BK571; clear BK575; clear HB; have HO566 := n0_; have HO569 := n1_; have HO574 := n2_; have HO578 := n3_; have BK562 := n4_; have BK571 := n5_; have BK575 := n6_; have HB := n7_; have BK580 := n8_; have GW580 := n9_; have GE580 := n10_; have NB562_580 := n11_; have NB580_562 := n12_; have NB571_580 := n13_; have NB580_571 := n14_; have NB575_580 := n15_; have NB580_575 := n16_; clear n0_ n1_ n2_ n3_ n4_ n5_ n6_ n7_ n8_ n9_ n10_ n11_ n12_ n13_ n14_ n15_ n16_; clear hb hbox hg; obtain ⟨Ao35, co35, eo35⟩ := Kd.R_slice HO578.out; subst eo35; have hnb36 := NB580_562.out; have hnc36 := NB562_580.out; have hnb37 := NB580_571.out; have hnc37 := NB571_580.out; have hnb38 := NB580_575.out; have hnc38 := NB575_580.out; have hcz39_0 : w34.cell? ⟨gb580, 0, none⟩ = some (.slice none 0 0) := (blk_cell BK580.out 0).trans rfl; have hfz39_0 := blk_frozen BK580.out 0))
      (try simp only [Act.put, List.setIfInBounds_toArray, List.set_cons_zero, List.set_cons_succ])
      go_cut [47] (fun v47 wc => ∃ (kq : Nat) (x47_13 : Bool), v47 = .bool x47_13 ∧ Aside0 (laws_FnExactDropWord.j0 kq a1 t570 t579 x47_13 l0_0 t567 t572 t576 = some true) ∧ Aside0 (kq ≤ k) ∧ Aside0 (Kd.R k76 76 wc w.heap.size (fun k_ => some k_ ≠ ((.slice Ao29 t572.length co29) : Value).ownBlock ∧ some k_ ≠ ((.slice Ao35 t576.length co35) : Value).ownBlock) (.slice Ao23 t567.length co23) t567) ∧ Aside0 (Kd.R k76 76 wc w.heap.size (fun k_ => some k_ ≠ ((.slice Ao23 t567.length co23) : Value).ownBlock ∧ some k_ ≠ ((.slice Ao35 t576.length co35) : Value).ownBlock) (.slice Ao29 t572.length co29) t572) ∧ Aside0 (Kd.R k76 76 wc w.heap.size (fun k_ => some k_ ≠ ((.slice Ao23 t567.length co23) : Value).ownBlock ∧ some k_ ≠ ((.slice Ao29 t572.length co29) : Value).ownBlock) (.slice Ao35 t576.length co35) t576) ∧ Aside0 (wc.heap[gb562]? = some (.cells #[(.slice A0_0 l0_0.length c0_0)] 36 (0, 0))) ∧ Aside0 (wc.heap[gb571]? = some (.cells #[(.slice Ao23 t567.length co23)] 26 (0, 0))) ∧ Aside0 (wc.heap[gb575]? = some (.cells #[(.slice Ao29 t572.length co29)] 26 (0, 0))) ∧ Aside0 (wc.heap[gb580]? = some (.cells #[(.slice Ao35 t576.length co35)] 26 (0, 0))) ∧ Aside0 (Below w.heap.size w wc))
      case first =>
        have H := HC14.out
        clear HC14
        replace H := Option.bind_eq_some_iff.mp H
        obtain ⟨t581, A400, H⟩ := H
        replace H : (if t581 = true then (laws_FnExactDropWord.j0 k a1 t570 t579 (t579 != t570) l0_0 t567 t572 t576) else (laws_FnExactDropWord.j0 k a1 t570 t579 true l0_0 t567 t572 t576)) = some true := H
        have A40 := Aside0.mk A400
        clear A400
        by_cases c41 : t581 = true
        · subst c41
          have H1 : (laws_FnExactDropWord.j0 k a1 t570 t579 (t579 != t570) l0_0 t567 t572 t576) = some true := by rw [if_pos rfl] at H; exact H
          clear H
          have H := H1
          clear H1
          have H' := Aside0.mk H
          clear H
          have hnb42 := NB580_562.out
          have hnc42 := NB562_580.out
          have hnb43 := NB580_571.out
          have hnc43 := NB571_580.out
          have hnb44 := NB580_575.out
          have hnc44 := NB575_580.out
          have hcz45_0 : w34.cell? ⟨gb580, 0, none⟩ = some (.slice none 0 0) := (blk_cell BK580.out 0).trans rfl
          have hfz45_0 := blk_frozen BK580.out 0
          have hnb46 := NB571_562.out
          have hnc46 := NB562_571.out
          have hnb47 := NB571_575.out
          have hnc47 := NB575_571.out
          have hcz48_0 : w34.cell? ⟨gb571, 0, none⟩ = some (.slice Ao23 t567.length co23) := (blk_cell BK571.out 0).trans rfl
          have hfz48_0 := blk_frozen BK571.out 0
          go_wp2_with (first | ((with_reducible refine gate_callee (f := 16) rfl ?_); refine goesL_ (some 41) rfl rfl Tryd.func16 (by kernel_rfl) rfl #[.agg #[.slice Ao35 t576.length co35], .agg #[.slice Ao23 t567.length co23]] rfl (by (try simp only [List.map_toArray, List.map_cons, List.map_nil]); first | done | rfl | (simp only [List.length_drop, List.length_take]; rfl)) ?_; (with_reducible refine (laws_eqTrie.calls k _ _ t576 _ _ t567 true _ ?side1 ?side2 ?side3 ?side4 A40.out).mono ?_); (case side1 => refine (Kd.R_reads' (e := 76) (base := w.heap.size) (ok := fun k_ => (((True ∧ some k_ ≠ (.slice Ao20 t564.length co20 : Value).ownBlock) ∧ some k_ ≠ (.slice Ao23 t567.length co23 : Value).ownBlock) ∧ some k_ ≠ (.slice Ao29 t572.length co29 : Value).ownBlock)) (n := t576.length) (c := co35) ?_).2.2; exact (by (with_reducible repeat (first | apply Kd.R_alloc | apply Kd.R_drewN | apply Kd.R_drew)); exact (Kd.R_mono (R_same_ (Kd.R_far (p := ⟨gb580, 0, none⟩) (Kd.R_types HO578.out BK580.out (by decide)) (fun _ hk => hk.2) (.slice Ao35 t576.length co35)) rfl) (fun _ h_ => h_.1)))); (case side2 => exact (Kd.R_reads' HO578.out).2.1); (case side3 => refine (Kd.R_reads' (e := 76) (base := w.heap.size) (ok := fun k_ => (((True ∧ some k_ ≠ (.slice Ao20 t564.length co20 : Value).ownBlock) ∧ some k_ ≠ (.slice Ao29 t572.length co29 : Value).ownBlock) ∧ some k_ ≠ (.slice Ao35 t576.length co35 : Value).ownBlock)) (n := t567.length) (c := co23) ?_).2.2; exact (by (with_reducible repeat (first | apply Kd.R_alloc | apply Kd.R_drewN | apply Kd.R_drew)); exact (Kd.R_mono (R_same_ (Kd.R_far (p := ⟨gb580, 0, none⟩) (Kd.R_types HO569.out BK580.out (by decide)) (fun _ hk => hk.2) (.slice Ao35 t576.length co35)) rfl) (fun _ h_ => h_.1)))); (case side4 => exact (Kd.R_reads' HO569.out).2.1); rintro e w49 ⟨rfl, hb⟩; refine ⟨_, rfl, ?_⟩; have n0_ := Aside0.mk (Kd.R_below (by (with_reducible repeat (first | apply Kd.R_alloc | apply Kd.R_drewN | apply Kd.R_drew)); exact (Kd.R_mono (R_same_ (Kd.R_far (p := ⟨gb580, 0, none⟩) (Kd.R_types HO566.out BK580.out (by decide)) (fun _ hk => hk.2) (.slice Ao35 t576.length co35)) rfl) (fun _ h_ => h_.1))) hb); have n1_ := Aside0.mk (Kd.R_below (by (with_reducible repeat (first | apply Kd.R_alloc | apply Kd.R_drewN | apply Kd.R_drew)); exact (Kd.R_mono (R_same_ (Kd.R_far (p := ⟨gb580, 0, none⟩) (Kd.R_types HO569.out BK580.out (by decide)) (fun _ hk => hk.2) (.slice Ao35 t576.length co35)) rfl) (fun _ h_ => h_.1))) hb); have n2_ := Aside0.mk (Kd.R_below (by (with_reducible repeat (first | apply Kd.R_alloc | apply Kd.R_drewN | apply Kd.R_drew)); exact (Kd.R_mono (R_same_ (Kd.R_far (p := ⟨gb580, 0, none⟩) (Kd.R_types HO574.out BK580.out (by decide)) (fun _ hk => hk.2) (.slice Ao35 t576.length co35)) rfl) (fun _ h_ => h_.1))) hb); have n3_ := Aside0.mk (Kd.R_below (by (with_reducible repeat (first | apply Kd.R_alloc | apply Kd.R_drewN | apply Kd.R_drew)); exact (Kd.R_mono (R_same_ (Kd.R_far (p := ⟨gb580, 0, none⟩) (Kd.R_types HO578.out BK580.out (by decide)) (fun _ hk => hk.2) (.slice Ao35 t576.length co35)) rfl) (fun _ h_ => h_.1))) hb); have n4_ := Aside0.mk (blk_below (g := gb562) (o := .cells #[.slice A0_0 l0_0.length c0_0] 36 (0, 0)) (by (with_reducible repeat (first | refine blk_drewN ?_ _ | refine blk_drew ?_ | refine blk_alloc ?_ _)); refine blk_far ?_ NB562_580.out _; (with_reducible repeat (first | refine blk_drewN ?_ _ | refine blk_drew ?_ | refine blk_alloc ?_ _)); exact BK562.out) hb); have n5_ := Aside0.mk (blk_below (g := gb571) (o := .cells #[.slice Ao23 t567.length co23] 26 (0, 0)) (by (with_reducible repeat (first | refine blk_drewN ?_ _ | refine blk_drew ?_ | refine blk_alloc ?_ _)); refine blk_far ?_ NB571_580.out _; (with_reducible repeat (first | refine blk_drewN ?_ _ | refine blk_drew ?_ | refine blk_alloc ?_ _)); exact BK571.out) hb); have n6_ := Aside0.mk (blk_below (g := gb575) (o := .cells #[.slice Ao29 t572.length co29] 26 (0, 0)) (by (with_reducible repeat (first | refine blk_drewN ?_ _ | refine blk_drew ?_ | refine blk_alloc ?_ _)); refine blk_far ?_ NB575_580.out _; (with_reducible repeat (first | refine blk_drewN ?_ _ | refine blk_drew ?_ | refine blk_alloc ?_ _)); exact BK575.out) hb); have n7_ := Aside0.mk (blk_below (g := gb580) (o := .cells #[.slice Ao35 t576.length co35] 26 (0, 0)) (by (with_reducible repeat (first | refine blk_drewN ?_ _ | refine blk_drew ?_ | refine blk_alloc ?_ _)); refine blk_put (cs := #[.slice none 0 0]) ?_ 0 _ rfl; (with_reducible repeat (first | refine blk_drewN ?_ _ | refine blk_drew ?_ | refine blk_alloc ?_ _)); exact BK580.out) hb); have n8_ := Aside0.mk (below_step (by repeat (first | (with_reducible first | exact HB.out | apply below_alloc | apply pw_below_drewN | apply below_drew1 | refine below_set ?_ GE562.out | refine below_set ?_ GE571.out | refine below_set ?_ GE575.out | refine below_set ?_ GE580.out) | exact HB.out)) hb); clear HO566; clear HO569; clear HO574; clear HO578; clear BK562; clear BK571; clear BK575; clear BK580; clear HB; have HO566 := n0_; have HO569 := n1_; have HO574 := n2_; have HO578 := n3_; have BK562 := n4_; have BK571 := n5_; have BK575 := n6_; have BK580 := n7_; have HB := n8_; clear n0_ n1_ n2_ n3_ n4_ n5_ n6_ n7_ n8_; (try clear hb); (try clear hb2); (try clear hk); (try clear hi)))
          go_meet
          case rel => exact ⟨_, ((t579 != t570)), (by first | rfl | (simp; done) | (simp [*]; done)), H', ⟨by first | omega | exact Nat.le_refl _⟩, ⟨by (with_reducible repeat (first | apply Kd.R_alloc | apply Kd.R_drewN | apply Kd.R_drew)); exact Kd.R_mono HO569.out (fun _ hk => ⟨hk.1.2, hk.2⟩)⟩, ⟨by (with_reducible repeat (first | apply Kd.R_alloc | apply Kd.R_drewN | apply Kd.R_drew)); exact Kd.R_mono HO574.out (fun _ hk => ⟨hk.1.2, hk.2⟩)⟩, ⟨by (with_reducible repeat (first | apply Kd.R_alloc | apply Kd.R_drewN | apply Kd.R_drew)); exact Kd.R_mono HO578.out (fun _ hk => ⟨hk.1.2, hk.2⟩)⟩, ⟨by (with_reducible repeat (first | refine blk_drewN ?_ _ | refine blk_drew ?_ | refine blk_alloc ?_ _)); exact BK562.out⟩, ⟨by (with_reducible repeat (first | refine blk_drewN ?_ _ | refine blk_drew ?_ | refine blk_alloc ?_ _)); exact BK571.out⟩, ⟨by (with_reducible repeat (first | refine blk_drewN ?_ _ | refine blk_drew ?_ | refine blk_alloc ?_ _)); exact BK575.out⟩, ⟨by (with_reducible repeat (first | refine blk_drewN ?_ _ | refine blk_drew ?_ | refine blk_alloc ?_ _)); exact BK580.out⟩, ⟨by repeat (first | (with_reducible first | exact HB.out | apply below_alloc | apply pw_below_drewN | apply below_drew1 | refine below_set ?_ GE562.out | refine below_set ?_ GE571.out | refine below_set ?_ GE575.out | refine below_set ?_ GE580.out) | exact HB.out)⟩⟩
        · replace c41 := Bool.eq_false_iff.mpr c41
          subst c41
          have H1 : (laws_FnExactDropWord.j0 k a1 t570 t579 true l0_0 t567 t572 t576) = some true := by rw [if_neg (show ¬ (false = true) by decide)] at H; exact H
          exact absurd H1 (by cases k <;> simp [laws_FnExactDropWord.j0])
      case rest =>
        clear HC14
        try clear c1
        try clear c2
        try clear p2
        try clear c3
        try clear c3b0
        try clear c3b1
        try clear c4
        try clear c5
        try clear c6
        try clear c6b0
        try clear c7
        try clear c16
        try clear c21
        try clear c23
        try clear c24
        try clear c29
        try clear c30
        try clear c31
        try clear c36
        try clear c37
        try clear c38
        try clear c41
        try clear c42
        try clear c43
        try clear c44
        try clear c46
        try clear c47
        try clear c50
        try clear c51
        try clear c52
        try clear c54
        try clear c55
        try clear hcz16_0
        try clear hcz18_0
        try clear hcz25_0
        try clear hcz26_0
        try clear hcz32_0
        try clear hcz39_0
        try clear hcz45_0
        try clear hcz48_0
        try clear hcz53_0
        try clear hcz56_0
        try clear hcz8_0
        try clear hfz16_0
        try clear hfz18_0
        try clear hfz25_0
        try clear hfz26_0
        try clear hfz32_0
        try clear hfz39_0
        try clear hfz45_0
        try clear hfz48_0
        try clear hfz53_0
        try clear hfz56_0
        try clear hfz8_0
        obtain ⟨kq, x47_13, rfl, HA, HJ13, HO_572000, HO_576000, HO_581000, BK562, BK571, BK575, BK580, HB⟩ := hcut
        cases kq with
        | zero => exact absurd HA.out (by simp [laws_FnExactDropWord.j0])
        | succ kj13 =>
          have H := HA.out
          clear HA
          simp only [laws_FnExactDropWord.j0] at H
          by_cases c58 : x47_13 = true
          · subst c58
            have H1 : (some false) = some true := by rw [if_pos rfl] at H; exact H
            exact absurd H1 (by simp)
          · replace c58 := Bool.eq_false_iff.mpr c58
            subst c58
            have H1 : ((laws_toTrie.f kj13 l0_0).bind fun t582 => ((laws_eqTrie.f kj13 t572 t582).bind fun t585 => (if t585 = true then ((laws_markTrie.f kj13 t572 1).bind fun bt586 => (if bt586.1 < 0 then (laws_FnExactDropWord.j1 kj13 a1 t570 true l0_0 t567 t576) else ((laws_eqTrie.f kj13 t576 t567).bind fun t588 => (if t588 = true then (laws_FnExactDropWord.j1 kj13 a1 t570 (t579 != t570) l0_0 t567 t576) else (laws_FnExactDropWord.j1 kj13 a1 t570 true l0_0 t567 t576))))) else (some false)))) = some true := by rw [if_neg (show ¬ (false = true) by decide)] at H; exact H
            clear H
            have H := H1
            clear H1
            replace H := Option.bind_eq_some_iff.mp H
            obtain ⟨t582, A590, H⟩ := H
            replace H : ((laws_eqTrie.f kj13 t572 t582).bind fun t585 => (if t585 = true then ((laws_markTrie.f kj13 t572 1).bind fun bt586 => (if bt586.1 < 0 then (laws_FnExactDropWord.j1 kj13 a1 t570 true l0_0 t567 t576) else ((laws_eqTrie.f kj13 t576 t567).bind fun t588 => (if t588 = true then (laws_FnExactDropWord.j1 kj13 a1 t570 (t579 != t570) l0_0 t567 t576) else (laws_FnExactDropWord.j1 kj13 a1 t570 true l0_0 t567 t576))))) else (some false))) = some true := H
            have A59 := Aside0.mk A590
            clear A590
            replace H := Option.bind_eq_some_iff.mp H
            obtain ⟨t585, A600, H⟩ := H
            replace H : (if t585 = true then ((laws_markTrie.f kj13 t572 1).bind fun bt586 => (if bt586.1 < 0 then (laws_FnExactDropWord.j1 kj13 a1 t570 true l0_0 t567 t576) else ((laws_eqTrie.f kj13 t576 t567).bind fun t588 => (if t588 = true then (laws_FnExactDropWord.j1 kj13 a1 t570 (t579 != t570) l0_0 t567 t576) else (laws_FnExactDropWord.j1 kj13 a1 t570 true l0_0 t567 t576))))) else (some false)) = some true := H
            have A60 := Aside0.mk A600
            clear A600
            by_cases c61 : t585 = true
            · subst c61
              have H1 : ((laws_markTrie.f kj13 t572 1).bind fun bt586 => (if bt586.1 < 0 then (laws_FnExactDropWord.j1 kj13 a1 t570 true l0_0 t567 t576) else ((laws_eqTrie.f kj13 t576 t567).bind fun t588 => (if t588 = true then (laws_FnExactDropWord.j1 kj13 a1 t570 (t579 != t570) l0_0 t567 t576) else (laws_FnExactDropWord.j1 kj13 a1 t570 true l0_0 t567 t576))))) = some true := by rw [if_pos rfl] at H; exact H
              clear H
              have H := H1
              clear H1
              replace H := Option.bind_eq_some_iff.mp H
              obtain ⟨⟨t586, t587⟩, A620, H⟩ := H
              replace H : (if t586 < 0 then (laws_FnExactDropWord.j1 kj13 a1 t570 true l0_0 t567 t576) else ((laws_eqTrie.f kj13 t576 t567).bind fun t588 => (if t588 = true then (laws_FnExactDropWord.j1 kj13 a1 t570 (t579 != t570) l0_0 t567 t576) else (laws_FnExactDropWord.j1 kj13 a1 t570 true l0_0 t567 t576)))) = some true := H
              have A62 := Aside0.mk A620
              clear A620
              have HC63 := Aside0.mk H
              clear H
              try go_wp2
              have n0_ := Aside0.mk (Kd.R_drew HO_572000.out)
              have n1_ := Aside0.mk (Kd.R_drew HO_576000.out)
              have n2_ := Aside0.mk (Kd.R_drew HO_581000.out)
              have n3_ := Aside0.mk (blk_drew BK562.out)
              have n4_ := Aside0.mk (blk_drew BK571.out)
              have n5_ := Aside0.mk (blk_drew BK575.out)
              have n6_ := Aside0.mk (blk_drew BK580.out)
              have n7_ := Aside0.mk (below_drew1 HB.out)
              clear HO_572000
              clear HO_576000
              clear HO_581000
              clear BK562
              clear BK571
              clear BK575
              clear BK580
              clear HB
              have HO_572000 := n0_
              have HO_576000 := n1_
              have HO_581000 := n2_
              have BK562 := n3_
              have BK571 := n4_
              have BK575 := n5_
              have BK580 := n6_
              have HB := n7_
              clear n0_ n1_ n2_ n3_ n4_ n5_ n6_ n7_
              refine start_ (n := 5) (S := fun w' => w'.cell? ⟨gb575, 0, none⟩ = some (.slice Ao29 t572.length co29) ∧ w'.cell? ⟨gb562, 0, none⟩ = some (.slice A0_0 l0_0.length c0_0)) (ds := []) #[false, false, false, false, false] (by kernel_rfl) rfl rfl ⟨(blk_cell BK575.out 0).trans rfl, (blk_cell BK562.out 0).trans rfl⟩ (fun hHeld => ?_)
              generalize wc.drew = w64 at HO_572000 HO_576000 HO_581000 BK562 BK571 BK575 BK580 HB hHeld ⊢
              refine take_ (i := 0) (N := some 48) (v := ?_) (a' := ?_) #[true, false, false, false, false] rfl rfl (by kernel_rfl) (fun _ _ _ h => h) (Or.inl ⟨by rfl, ?_⟩) hHeld ?_ ?_
              rotate_left
              · rintro w' ⟨s0, s1⟩
                go_simp
                with_reducible rfl
              rotate_left
              · simp only [Act.put, List.setIfInBounds_toArray, List.set_cons_zero, List.set_cons_succ, i64_w, i32_w]
                rfl
              refine take_ (i := 1) (N := some 49) (v := ?_) (a' := ?_) #[true, true, false, false, false] rfl rfl (by kernel_rfl) (fun _ _ _ h => h) (Or.inl ⟨by rfl, ?_⟩) hHeld ?_ ?_
              rotate_left
              · rintro w' ⟨s0, s1⟩
                go_simp
                with_reducible rfl
              rotate_left
              · simp only [Act.put, List.setIfInBounds_toArray, List.set_cons_zero, List.set_cons_succ, i64_w, i32_w]
                rfl
              refine one_ (i := 2) (N := some 50) #[true, true, true, false, false] rfl rfl (by kernel_rfl) (by decide) (fun K hK => ?_)
              refine goes_ Tryd.func23 (by kernel_rfl) rfl #[.agg #[.slice A0_0 l0_0.length c0_0]] (by rfl) rfl rfl (by (try simp only [List.map_toArray, List.map_cons, List.map_nil]); first | done | rfl | (simp only [List.length_drop, List.length_take]; rfl)) ?_
              with_reducible refine (laws_toTrie.calls kj13 _ _ l0_0 t582 _ ?side1 ?side2 A59.out).mono ?_
              (case side1 => repeat (first | exact (Kd.C_below HR0_0.out HB.out) | (with_reducible refine Kd.C_alloc ?_ _) | (with_reducible refine Kd.C_drewN ?_ _) | (with_reducible refine Kd.C_drew ?_)))
              (case side2 => exact HC0_0.out)
              rintro e w65 ⟨v583, rfl, ho0, hb⟩
              refine ⟨_, rfl, ?_⟩
              have n0_ := Aside0.mk (Kd.R_elder' (by (with_reducible repeat (first | apply Kd.R_alloc | apply Kd.R_drewN | apply Kd.R_drew)); exact HO_572000.out) (Kd.R_base ho0) hb)
              have n1_ := Aside0.mk (Kd.R_elder' (by (with_reducible repeat (first | apply Kd.R_alloc | apply Kd.R_drewN | apply Kd.R_drew)); exact HO_576000.out) (Kd.R_base ho0) hb)
              have n2_ := Aside0.mk (Kd.R_elder' (by (with_reducible repeat (first | apply Kd.R_alloc | apply Kd.R_drewN | apply Kd.R_drew)); exact HO_581000.out) (Kd.R_base ho0) hb)
              have n3_ := Aside0.mk (Kd.R_lower (Kd.R_new' (Kd.R_new' (Kd.R_new' ho0 (Kd.R_lt (by (with_reducible repeat (first | apply Kd.R_alloc | apply Kd.R_drewN | apply Kd.R_drew)); exact HO_572000.out))) (Kd.R_lt (by (with_reducible repeat (first | apply Kd.R_alloc | apply Kd.R_drewN | apply Kd.R_drew)); exact HO_576000.out))) (Kd.R_lt (by (with_reducible repeat (first | apply Kd.R_alloc | apply Kd.R_drewN | apply Kd.R_drew)); exact HO_581000.out))) (below_size (by repeat (first | (with_reducible first | exact HB.out | apply below_alloc | apply pw_below_drewN | apply below_drew1 | refine below_set ?_ GE562.out | refine below_set ?_ GE571.out | refine below_set ?_ GE575.out | refine below_set ?_ GE580.out) | exact HB.out))))
              have n4_ := Aside0.mk (blk_below (g := gb562) (o := .cells #[.slice A0_0 l0_0.length c0_0] 36 (0, 0)) (by (with_reducible repeat (first | refine blk_drewN ?_ _ | refine blk_drew ?_ | refine blk_alloc ?_ _)); exact BK562.out) hb)
              have n5_ := Aside0.mk (blk_below (g := gb571) (o := .cells #[.slice Ao23 t567.length co23] 26 (0, 0)) (by (with_reducible repeat (first | refine blk_drewN ?_ _ | refine blk_drew ?_ | refine blk_alloc ?_ _)); exact BK571.out) hb)
              have n6_ := Aside0.mk (blk_below (g := gb575) (o := .cells #[.slice Ao29 t572.length co29] 26 (0, 0)) (by (with_reducible repeat (first | refine blk_drewN ?_ _ | refine blk_drew ?_ | refine blk_alloc ?_ _)); exact BK575.out) hb)
              have n7_ := Aside0.mk (blk_below (g := gb580) (o := .cells #[.slice Ao35 t576.length co35] 26 (0, 0)) (by (with_reducible repeat (first | refine blk_drewN ?_ _ | refine blk_drew ?_ | refine blk_alloc ?_ _)); exact BK580.out) hb)
              have n8_ := Aside0.mk (below_step (by repeat (first | (with_reducible first | exact HB.out | apply below_alloc | apply pw_below_drewN | apply below_drew1 | refine below_set ?_ GE562.out | refine below_set ?_ GE571.out | refine below_set ?_ GE575.out | refine below_set ?_ GE580.out) | exact HB.out)) hb)
              clear HO_572000
              clear HO_576000
              clear HO_581000
              clear BK562
              clear BK571
              clear BK575
              clear BK580
              clear HB
              have HO_572000 := n0_
              have HO_576000 := n1_
              have HO_581000 := n2_
              have HO584 := n3_
              have BK562 := n4_
              have BK571 := n5_
              have BK575 := n6_
              have BK580 := n7_
              have HB := n8_
              clear n0_ n1_ n2_ n3_ n4_ n5_ n6_ n7_ n8_
              (try clear hb)
              (try clear hb2)
              (try clear hk)
              (try clear hi)
              (try clear ho0)
              obtain ⟨Ao66, co66, eo66⟩ := Kd.R_slice HO584.out
              (first | subst eo66 | (injection eo66 with f1_ f2_ f3_; have f4_ := f1_.symm; have f5_ := f3_.symm; clear f1_ f2_ f3_; subst f4_; subst f5_))
              refine hK.out _ _ ⟨(blk_cell BK575.out 0).trans rfl, (blk_cell BK562.out 0).trans rfl⟩ (fun hHeld => ?_)
              clear hK K
              refine norm_ (a' := ?_) ?_ ?_
              rotate_left
              · show Act.put _ (some 50) _ = _
                simp only [Act.put, List.setIfInBounds_toArray, List.set_cons_zero, List.set_cons_succ, i64_w, i32_w]
                rfl
              refine one_ (i := 3) (N := some 51) #[true, true, true, true, false] rfl rfl (by kernel_rfl) (by decide) (fun K hK => ?_)
              refine goes_ Tryd.func16 (by kernel_rfl) rfl #[.agg #[.slice Ao29 t572.length co29], .agg #[.slice Ao66 t582.length co66]] (by rfl) rfl rfl (by (try simp only [List.map_toArray, List.map_cons, List.map_nil]); first | done | rfl | (simp only [List.length_drop, List.length_take]; rfl)) ?_
              with_reducible refine (laws_eqTrie.calls kj13 _ _ t572 _ _ t582 true _ ?side1 ?side2 ?side3 ?side4 A60.out).mono ?_
              (case side1 => repeat (first | exact (Kd.R_reads' HO_576000.out).2.2 | (with_reducible refine Kd.C_alloc ?_ _) | (with_reducible refine Kd.C_drewN ?_ _) | (with_reducible refine Kd.C_drew ?_)))
              (case side2 => exact (Kd.R_reads' HO_576000.out).2.1)
              (case side3 => repeat (first | exact (Kd.R_reads' HO584.out).2.2 | (with_reducible refine Kd.C_alloc ?_ _) | (with_reducible refine Kd.C_drewN ?_ _) | (with_reducible refine Kd.C_drew ?_)))
              (case side4 => exact (Kd.R_reads' HO584.out).2.1)
              rintro e w67 ⟨rfl, hb⟩
              refine ⟨_, rfl, ?_⟩
              have n0_ := Aside0.mk (Kd.R_below (by (with_reducible repeat (first | apply Kd.R_alloc | apply Kd.R_drewN | apply Kd.R_drew)); exact HO_572000.out) hb)
              have n1_ := Aside0.mk (Kd.R_below (by (with_reducible repeat (first | apply Kd.R_alloc | apply Kd.R_drewN | apply Kd.R_drew)); exact HO_576000.out) hb)
              have n2_ := Aside0.mk (Kd.R_below (by (with_reducible repeat (first | apply Kd.R_alloc | apply Kd.R_drewN | apply Kd.R_drew)); exact HO_581000.out) hb)
              have n3_ := Aside0.mk (Kd.R_below (by (with_reducible repeat (first | apply Kd.R_alloc | apply Kd.R_drewN | apply Kd.R_drew)); exact HO584.out) hb)
              have n4_ := Aside0.mk (blk_below (g := gb562) (o := .cells #[.slice A0_0 l0_0.length c0_0] 36 (0, 0)) (by (with_reducible repeat (first | refine blk_drewN ?_ _ | refine blk_drew ?_ | refine blk_alloc ?_ _)); exact BK562.out) hb)
              have n5_ := Aside0.mk (blk_below (g := gb571) (o := .cells #[.slice Ao23 t567.length co23] 26 (0, 0)) (by (with_reducible repeat (first | refine blk_drewN ?_ _ | refine blk_drew ?_ | refine blk_alloc ?_ _)); exact BK571.out) hb)
              have n6_ := Aside0.mk (blk_below (g := gb575) (o := .cells #[.slice Ao29 t572.length co29] 26 (0, 0)) (by (with_reducible repeat (first | refine blk_drewN ?_ _ | refine blk_drew ?_ | refine blk_alloc ?_ _)); exact BK575.out) hb)
              have n7_ := Aside0.mk (blk_below (g := gb580) (o := .cells #[.slice Ao35 t576.length co35] 26 (0, 0)) (by (with_reducible repeat (first | refine blk_drewN ?_ _ | refine blk_drew ?_ | refine blk_alloc ?_ _)); exact BK580.out) hb)
              have n8_ := Aside0.mk (below_step (by repeat (first | (with_reducible first | exact HB.out | apply below_alloc | apply pw_below_drewN | apply below_drew1 | refine below_set ?_ GE562.out | refine below_set ?_ GE571.out | refine below_set ?_ GE575.out | refine below_set ?_ GE580.out) | exact HB.out)) hb)
              clear HO_572000
              clear HO_576000
              clear HO_581000
              clear HO584
              clear BK562
              clear BK571
              clear BK575
              clear BK580
              clear HB
              have HO_572000 := n0_
              have HO_576000 := n1_
              have HO_581000 := n2_
              have HO584 := n3_
              have BK562 := n4_
              have BK571 := n5_
              have BK575 := n6_
              have BK580 := n7_
              have HB := n8_
              clear n0_ n1_ n2_ n3_ n4_ n5_ n6_ n7_ n8_
              (try clear hb)
              (try clear hb2)
              (try clear hk)
              (try clear hi)
              refine hK.out _ _ ⟨(blk_cell BK575.out 0).trans rfl, (blk_cell BK562.out 0).trans rfl⟩ (fun hHeld => ?_)
              clear hK K
              refine norm_ (a' := ?_) ?_ ?_
              rotate_left
              · show Act.put _ (some 51) _ = _
                simp only [Act.put, List.setIfInBounds_toArray, List.set_cons_zero, List.set_cons_succ, i64_w, i32_w]
                rfl
              refine pure_ (i := 4) (N := some 52) (v := ?_) (a' := ?_) #[true, true, true, true, true] rfl rfl (by kernel_rfl) (fun _ _ _ h => h) (Or.inl ⟨by rfl, ?_⟩) ?_ ?_
              rotate_left
              · intro w'
                go_simp
                with_reducible rfl
              rotate_left
              · simp only [Act.put, List.setIfInBounds_toArray, List.set_cons_zero, List.set_cons_succ, i64_w, i32_w]
                rfl
              refine done_ (by kernel_rfl) ?_
              have hnb68 := NB575_562.out
              have hnc68 := NB562_575.out
              have hnb69 := NB575_571.out
              have hnc69 := NB571_575.out
              have hnb70 := NB575_580.out
              have hnc70 := NB580_575.out
              have hcz71_0 : w67.cell? ⟨gb575, 0, none⟩ = some (.slice Ao29 t572.length co29) := (blk_cell BK575.out 0).trans rfl
              have hfz71_0 := blk_frozen BK575.out 0
              go_upto_region 16 with (first | ((with_reducible refine gate_callee (f := 19) rfl ?_); refine goesL_ (some 55) rfl rfl Tryd.func19 (by kernel_rfl) rfl #[.agg #[.slice Ao29 t572.length co29], .int .i64 1] rfl (by (try simp only [List.map_toArray, List.map_cons, List.map_nil]); first | done | rfl | (simp only [List.length_drop, List.length_take]; rfl)) ?_; (with_reducible refine (laws_markTrie.calls kj13 (fun k_ => some k_ = (.slice Ao29 t572.length co29 : Value).ownBlock) (.slice Ao29 t572.length co29) t572 1 t586 t587 w _ ?side1 ?side2 A62.out).mono ?_); (case side1 => repeat (first | (with_reducible first | exact HB.out | apply below_alloc | apply pw_below_drewN | apply below_drew1 | refine below_set ?_ GE562.out | refine below_set ?_ GE571.out | refine below_set ?_ GE575.out | refine below_set ?_ GE580.out) | exact HB.out)); (case side2 => exact Kd.R_tight rfl HO_576000.out); rintro e w72 ⟨rfl, hy0, hb, hkp⟩; refine ⟨_, rfl, ?_⟩; have n0_ := Aside0.mk (Kd.R_mono (ok' := fun k_ => some k_ ≠ (.slice Ao29 t572.length co29 : Value).ownBlock ∧ some k_ ≠ (.slice Ao35 t576.length co35 : Value).ownBlock ∧ some k_ ≠ (.slice Ao66 t582.length co66 : Value).ownBlock) (Kd.R_keptB (HO_572000.out) hkp (fun k_ hk_ hs_ => (hk_.1.1) hs_)) (fun k_ hk_ => ⟨hk_.1.1.1, hk_.1.1.2, hk_.1.2⟩)); have n1_ := Aside0.mk (Kd.R_reok rfl hy0 (fun k_ e_ => HO_576000.out.1 k_ e_)); have n2_ := Aside0.mk (Kd.R_mono (ok' := fun k_ => some k_ ≠ (.slice Ao23 t567.length co23 : Value).ownBlock ∧ some k_ ≠ (.slice Ao29 t572.length co29 : Value).ownBlock ∧ some k_ ≠ (.slice Ao66 t582.length co66 : Value).ownBlock) (Kd.R_keptB (HO_581000.out) hkp (fun k_ hk_ hs_ => (hk_.1.2) hs_)) (fun k_ hk_ => ⟨hk_.1.1.1, hk_.1.1.2, hk_.1.2⟩)); have n3_ := Aside0.mk (blk_kept (by (with_reducible repeat (first | refine blk_drewN ?_ _ | refine blk_drew ?_ | refine blk_alloc ?_ _)); exact BK562.out) hkp (fun hs_ => (fun e_ => (Kd.R_ne HO_576000.out BK562.out (by decide)) e_) hs_)); have n4_ := Aside0.mk (blk_kept (by (with_reducible repeat (first | refine blk_drewN ?_ _ | refine blk_drew ?_ | refine blk_alloc ?_ _)); exact BK571.out) hkp (fun hs_ => (fun e_ => (Kd.R_ne HO_576000.out BK571.out (by decide)) e_) hs_)); have n5_ := Aside0.mk (blk_kept (by (with_reducible repeat (first | refine blk_drewN ?_ _ | refine blk_drew ?_ | refine blk_alloc ?_ _)); exact BK575.out) hkp (fun hs_ => (fun e_ => (Kd.R_ne HO_576000.out BK575.out (by decide)) e_) hs_)); have n6_ := Aside0.mk (blk_kept (by (with_reducible repeat (first | refine blk_drewN ?_ _ | refine blk_drew ?_ | refine blk_alloc ?_ _)); exact BK580.out) hkp (fun hs_ => (fun e_ => (Kd.R_ne HO_576000.out BK580.out (by decide)) e_) hs_)); have n7_ := Aside0.mk (Kd.R_mono (ok' := fun k_ => some k_ ≠ (.slice Ao23 t567.length co23 : Value).ownBlock ∧ some k_ ≠ (.slice Ao29 t572.length co29 : Value).ownBlock ∧ some k_ ≠ (.slice Ao35 t576.length co35 : Value).ownBlock) (Kd.R_keptB (HO584.out) hkp (fun k_ hk_ hs_ => (hk_.1.2) hs_)) (fun k_ hk_ => ⟨hk_.1.1.1.2, hk_.1.1.2, hk_.1.2⟩)); have n8_ := Aside0.mk (hb); clear HO_572000; clear HO_576000; clear HO_581000; clear BK562; clear BK571; clear BK575; clear BK580; clear HO584; clear HB; have HO_572000 := n0_; have HO_576000 := n1_; have HO_581000 := n2_; have BK562 := n3_; have BK571 := n4_; have BK575 := n5_; have BK580 := n6_; have HO584 := n7_; have HB := n8_; clear n0_ n1_ n2_ n3_ n4_ n5_ n6_ n7_ n8_; (try clear hb); (try clear hkp); (try clear hy0)))
              (try simp only [Act.put, List.setIfInBounds_toArray, List.set_cons_zero, List.set_cons_succ])
              go_cut [68] (fun v68 wc => ∃ (kq : Nat) (x68_62 : Bool), v68 = .bool x68_62 ∧ Aside0 (laws_FnExactDropWord.j1 kq a1 t570 x68_62 l0_0 t567 t576 = some true) ∧ Aside0 (kq ≤ kj13) ∧ Aside0 (Kd.R k76 76 wc w.heap.size (fun k_ => some k_ ≠ ((.slice Ao29 t572.length co29) : Value).ownBlock ∧ some k_ ≠ ((.slice Ao35 t576.length co35) : Value).ownBlock) (.slice Ao23 t567.length co23) t567) ∧ Aside0 (Kd.R k76 76 wc w.heap.size (fun k_ => some k_ ≠ ((.slice Ao23 t567.length co23) : Value).ownBlock ∧ some k_ ≠ ((.slice Ao35 t576.length co35) : Value).ownBlock) (.slice Ao29 t572.length co29) t587) ∧ Aside0 (Kd.R k76 76 wc w.heap.size (fun k_ => some k_ ≠ ((.slice Ao23 t567.length co23) : Value).ownBlock ∧ some k_ ≠ ((.slice Ao29 t572.length co29) : Value).ownBlock) (.slice Ao35 t576.length co35) t576) ∧ Aside0 (wc.heap[gb562]? = some (.cells #[(.slice A0_0 l0_0.length c0_0)] 36 (0, 0))) ∧ Aside0 (wc.heap[gb571]? = some (.cells #[(.slice Ao23 t567.length co23)] 26 (0, 0))) ∧ Aside0 (wc.heap[gb575]? = some (.cells #[(.slice Ao29 t572.length co29)] 26 (0, 0))) ∧ Aside0 (wc.heap[gb580]? = some (.cells #[(.slice Ao35 t576.length co35)] 26 (0, 0))) ∧ Aside0 (Below w.heap.size w wc))
              case first =>
                have H := HC63.out
                clear HC63
                by_cases c73 : t586 < 0
                · rw [if_pos c73] at H
                  exact absurd H (by cases kj13 <;> simp [laws_FnExactDropWord.j1])
                · rw [if_neg c73] at H
                  have c73b0 : decide (t586 < 0) = false := decide_eq_false c73
                  clear c73
                  (first | rw [c73b0] | (simp only [i64_w, i32_w]; rw [c73b0]) | skip)
                  replace H := Option.bind_eq_some_iff.mp H
                  obtain ⟨t588, A740, H⟩ := H
                  replace H : (if t588 = true then (laws_FnExactDropWord.j1 kj13 a1 t570 (t579 != t570) l0_0 t567 t576) else (laws_FnExactDropWord.j1 kj13 a1 t570 true l0_0 t567 t576)) = some true := H
                  have A74 := Aside0.mk A740
                  clear A740
                  by_cases c75 : t588 = true
                  · subst c75
                    have H1 : (laws_FnExactDropWord.j1 kj13 a1 t570 (t579 != t570) l0_0 t567 t576) = some true := by rw [if_pos rfl] at H; exact H
                    clear H
                    have H := H1
                    clear H1
                    have H' := Aside0.mk H
                    clear H
                    have hnb76 := NB580_562.out
                    have hnc76 := NB562_580.out
                    have hnb77 := NB580_571.out
                    have hnc77 := NB571_580.out
                    have hnb78 := NB580_575.out
                    have hnc78 := NB575_580.out
                    have hcz79_0 : w72.cell? ⟨gb580, 0, none⟩ = some (.slice Ao35 t576.length co35) := (blk_cell BK580.out 0).trans rfl
                    have hfz79_0 := blk_frozen BK580.out 0
                    have hnb80 := NB571_562.out
                    have hnc80 := NB562_571.out
                    have hnb81 := NB571_575.out
                    have hnc81 := NB575_571.out
                    have hcz82_0 : w72.cell? ⟨gb571, 0, none⟩ = some (.slice Ao23 t567.length co23) := (blk_cell BK571.out 0).trans rfl
                    have hfz82_0 := blk_frozen BK571.out 0
                    go_wp2_with (first | (go_at_call 16; (with_reducible refine (laws_eqTrie.calls kj13 _ _ t576 _ _ t567 true _ ?side1 ?side2 ?side3 ?side4 A74.out).mono ?_); (case side1 => repeat (first | exact (Kd.R_reads' HO_581000.out).2.2 | (with_reducible refine Kd.C_alloc ?_ _) | (with_reducible refine Kd.C_drewN ?_ _) | (with_reducible refine Kd.C_drew ?_))); (case side2 => exact (Kd.R_reads' HO_581000.out).2.1); (case side3 => repeat (first | exact (Kd.R_reads' HO_572000.out).2.2 | (with_reducible refine Kd.C_alloc ?_ _) | (with_reducible refine Kd.C_drewN ?_ _) | (with_reducible refine Kd.C_drew ?_))); (case side4 => exact (Kd.R_reads' HO_572000.out).2.1); rintro e w83 ⟨rfl, hb⟩; have n0_ := Aside0.mk (Kd.R_below (by (with_reducible repeat (first | apply Kd.R_alloc | apply Kd.R_drewN | apply Kd.R_drew)); exact HO_572000.out) hb); have n1_ := Aside0.mk (Kd.R_below (by (with_reducible repeat (first | apply Kd.R_alloc | apply Kd.R_drewN | apply Kd.R_drew)); exact HO_576000.out) hb); have n2_ := Aside0.mk (Kd.R_below (by (with_reducible repeat (first | apply Kd.R_alloc | apply Kd.R_drewN | apply Kd.R_drew)); exact HO_581000.out) hb); have n3_ := Aside0.mk (Kd.R_below (by (with_reducible repeat (first | apply Kd.R_alloc | apply Kd.R_drewN | apply Kd.R_drew)); exact HO584.out) hb); have n4_ := Aside0.mk (blk_below (g := gb562) (o := .cells #[.slice A0_0 l0_0.length c0_0] 36 (0, 0)) (by (with_reducible repeat (first | refine blk_drewN ?_ _ | refine blk_drew ?_ | refine blk_alloc ?_ _)); exact BK562.out) hb); have n5_ := Aside0.mk (blk_below (g := gb571) (o := .cells #[.slice Ao23 t567.length co23] 26 (0, 0)) (by (with_reducible repeat (first | refine blk_drewN ?_ _ | refine blk_drew ?_ | refine blk_alloc ?_ _)); exact BK571.out) hb); have n6_ := Aside0.mk (blk_below (g := gb575) (o := .cells #[.slice Ao29 t572.length co29] 26 (0, 0)) (by (with_reducible repeat (first | refine blk_drewN ?_ _ | refine blk_drew ?_ | refine blk_alloc ?_ _)); exact BK575.out) hb); have n7_ := Aside0.mk (blk_below (g := gb580) (o := .cells #[.slice Ao35 t576.length co35] 26 (0, 0)) (by (with_reducible repeat (first | refine blk_drewN ?_ _ | refine blk_drew ?_ | refine blk_alloc ?_ _)); exact BK580.out) hb); have n8_ := Aside0.mk (below_step (by repeat (first | (with_reducible first | exact HB.out | apply below_alloc | apply pw_below_drewN | apply below_drew1 | refine below_set ?_ GE562.out | refine below_set ?_ GE571.out | refine below_set ?_ GE575.out | refine below_set ?_ GE580.out) | exact HB.out)) hb); clear HO_572000; clear HO_576000; clear HO_581000; clear HO584; clear BK562; clear BK571; clear BK575; clear BK580; clear HB; have HO_572000 := n0_; have HO_576000 := n1_; have HO_581000 := n2_; have HO584 := n3_; have BK562 := n4_; have BK571 := n5_; have BK575 := n6_; have BK580 := n7_; have HB := n8_; clear n0_ n1_ n2_ n3_ n4_ n5_ n6_ n7_ n8_; (try clear hb); (try clear hb2); (try clear hk); (try clear hi)))
                    go_meet
                    case rel => exact ⟨_, ((t579 != t570)), (by first | rfl | (simp; done) | (simp [*]; done)), H', ⟨by have := HJ13.out; first | omega | exact Nat.le_refl _⟩, ⟨by (with_reducible repeat (first | apply Kd.R_alloc | apply Kd.R_drewN | apply Kd.R_drew)); exact Kd.R_mono HO_572000.out (fun _ hk => ⟨hk.1, hk.2.1⟩)⟩, ⟨by (with_reducible repeat (first | apply Kd.R_alloc | apply Kd.R_drewN | apply Kd.R_drew)); exact Kd.R_mono HO_576000.out (fun _ hk => ⟨hk.1.1, hk.1.2⟩)⟩, ⟨by (with_reducible repeat (first | apply Kd.R_alloc | apply Kd.R_drewN | apply Kd.R_drew)); exact Kd.R_mono HO_581000.out (fun _ hk => ⟨hk.1, hk.2.1⟩)⟩, ⟨by (with_reducible repeat (first | refine blk_drewN ?_ _ | refine blk_drew ?_ | refine blk_alloc ?_ _)); exact BK562.out⟩, ⟨by (with_reducible repeat (first | refine blk_drewN ?_ _ | refine blk_drew ?_ | refine blk_alloc ?_ _)); exact BK571.out⟩, ⟨by (with_reducible repeat (first | refine blk_drewN ?_ _ | refine blk_drew ?_ | refine blk_alloc ?_ _)); exact BK575.out⟩, ⟨by (with_reducible repeat (first | refine blk_drewN ?_ _ | refine blk_drew ?_ | refine blk_alloc ?_ _)); exact BK580.out⟩, ⟨by repeat (first | (with_reducible first | exact HB.out | apply below_alloc | apply pw_below_drewN | apply below_drew1 | refine below_set ?_ GE562.out | refine below_set ?_ GE571.out | refine below_set ?_ GE575.out | refine below_set ?_ GE580.out) | exact HB.out)⟩⟩
                  · replace c75 := Bool.eq_false_iff.mpr c75
                    subst c75
                    have H1 : (laws_FnExactDropWord.j1 kj13 a1 t570 true l0_0 t567 t576) = some true := by rw [if_neg (show ¬ (false = true) by decide)] at H; exact H
                    exact absurd H1 (by cases kj13 <;> simp [laws_FnExactDropWord.j1])
              case rest =>
                clear HC63
                try clear c1
                try clear c2
                try clear p2
                try clear c3
                try clear c3b0
                try clear c3b1
                try clear c4
                try clear c5
                try clear c6
                try clear c6b0
                try clear c7
                try clear c8
                try clear c16
                try clear c19
                try clear c21
                try clear c23
                try clear c24
                try clear c29
                try clear c30
                try clear c31
                try clear c36
                try clear c37
                try clear c38
                try clear c41
                try clear c42
                try clear c43
                try clear c44
                try clear c46
                try clear c47
                try clear c50
                try clear c51
                try clear c52
                try clear c54
                try clear c55
                try clear c58
                try clear c61
                try clear c68
                try clear c69
                try clear c70
                try clear c73
                try clear c73b0
                try clear c75
                try clear c76
                try clear c77
                try clear c78
                try clear c80
                try clear c81
                try clear c84
                try clear c85
                try clear c86
                try clear c88
                try clear c89
                try clear hcz16_0
                try clear hcz18_0
                try clear hcz25_0
                try clear hcz26_0
                try clear hcz32_0
                try clear hcz39_0
                try clear hcz45_0
                try clear hcz48_0
                try clear hcz53_0
                try clear hcz56_0
                try clear hcz71_0
                try clear hcz79_0
                try clear hcz82_0
                try clear hcz87_0
                try clear hcz8_0
                try clear hcz90_0
                try clear hfz16_0
                try clear hfz18_0
                try clear hfz25_0
                try clear hfz26_0
                try clear hfz32_0
                try clear hfz39_0
                try clear hfz45_0
                try clear hfz48_0
                try clear hfz53_0
                try clear hfz56_0
                try clear hfz71_0
                try clear hfz79_0
                try clear hfz82_0
                try clear hfz87_0
                try clear hfz8_0
                try clear hfz90_0
                try clear p2
                obtain ⟨kq, x68_62, rfl, HA, HJ62, HO_572000, HO_576000, HO_581000, BK562, BK571, BK575, BK580, HB⟩ := hcut
                have hl576000_62 := (Kd.R_reads' HO_576000.out).1
                rw [hl576000_62] at HO_576000
                (try simp only [hl576000_62])
                (try simp only [hl576000_62] at BK562)
                (try simp only [hl576000_62] at BK571)
                (try simp only [hl576000_62] at BK575)
                (try simp only [hl576000_62] at BK580)
                (try simp only [hl576000_62] at HO_572000)
                (try simp only [hl576000_62] at HO_581000)
                cases kq with
                | zero => exact absurd HA.out (by simp [laws_FnExactDropWord.j1])
                | succ kj62 =>
                  have H := HA.out
                  clear HA
                  simp only [laws_FnExactDropWord.j1] at H
                  by_cases c92 : x68_62 = true
                  · subst c92
                    have H1 : (some false) = some true := by rw [if_pos rfl] at H; exact H
                    exact absurd H1 (by simp)
                  · replace c92 := Bool.eq_false_iff.mpr c92
                    subst c92
                    have H1 : ((laws_markTrie.f kj62 t576 1).bind fun bt589 => ((laws_heldTrie.f kj62 bt589.2 1).bind fun t591 => (if t591 < 0 then (some false) else (if t591 = bt589.1 then ((laws_toTrie.f kj62 l0_0).bind fun t592 => ((impl_DropWord.f t592 a1).bind fun bt595 => ((laws_eqTrie.f kj62 bt595.1 t567).bind fun t600 => (if t600 = true then (laws_FnExactDropWord.j2 kj62 bt589.1 (bt595.2 != t570) bt589.2) else (laws_FnExactDropWord.j2 kj62 bt589.1 true bt589.2))))) else (some false))))) = some true := by rw [if_neg (show ¬ (false = true) by decide)] at H; exact H
                    clear H
                    have H := H1
                    clear H1
                    replace H := Option.bind_eq_some_iff.mp H
                    obtain ⟨⟨t589, t590⟩, A930, H⟩ := H
                    replace H : ((laws_heldTrie.f kj62 t590 1).bind fun t591 => (if t591 < 0 then (some false) else (if t591 = t589 then ((laws_toTrie.f kj62 l0_0).bind fun t592 => ((impl_DropWord.f t592 a1).bind fun bt595 => ((laws_eqTrie.f kj62 bt595.1 t567).bind fun t600 => (if t600 = true then (laws_FnExactDropWord.j2 kj62 t589 (bt595.2 != t570) t590) else (laws_FnExactDropWord.j2 kj62 t589 true t590))))) else (some false)))) = some true := H
                    have A93 := Aside0.mk A930
                    clear A930
                    replace H := Option.bind_eq_some_iff.mp H
                    obtain ⟨t591, A940, H⟩ := H
                    replace H : (if t591 < 0 then (some false) else (if t591 = t589 then ((laws_toTrie.f kj62 l0_0).bind fun t592 => ((impl_DropWord.f t592 a1).bind fun bt595 => ((laws_eqTrie.f kj62 bt595.1 t567).bind fun t600 => (if t600 = true then (laws_FnExactDropWord.j2 kj62 t589 (bt595.2 != t570) t590) else (laws_FnExactDropWord.j2 kj62 t589 true t590))))) else (some false))) = some true := H
                    have A94 := Aside0.mk A940
                    clear A940
                    by_cases c95 : t591 < 0
                    · rw [if_pos c95] at H
                      exact absurd H (by simp)
                    · rw [if_neg c95] at H
                      have c95b0 : decide (t591 < 0) = false := decide_eq_false c95
                      clear c95
                      by_cases c103 : t591 = t589
                      · rw [if_pos c103] at H
                        have c103b0 : (t591 == t589) = true := beq_iff_eq.mpr c103
                        have c103b1 : (t591 != t589) = false := bne_eq_false_iff_eq.mpr c103
                        clear c103
                        replace H := Option.bind_eq_some_iff.mp H
                        obtain ⟨t592, A1040, H⟩ := H
                        replace H : ((impl_DropWord.f t592 a1).bind fun bt595 => ((laws_eqTrie.f kj62 bt595.1 t567).bind fun t600 => (if t600 = true then (laws_FnExactDropWord.j2 kj62 t589 (bt595.2 != t570) t590) else (laws_FnExactDropWord.j2 kj62 t589 true t590)))) = some true := H
                        have A104 := Aside0.mk A1040
                        clear A1040
                        replace H := Option.bind_eq_some_iff.mp H
                        obtain ⟨⟨t595, t598⟩, A1050, H⟩ := H
                        replace H : ((laws_eqTrie.f kj62 t595 t567).bind fun t600 => (if t600 = true then (laws_FnExactDropWord.j2 kj62 t589 (t598 != t570) t590) else (laws_FnExactDropWord.j2 kj62 t589 true t590))) = some true := H
                        have A105 := Aside0.mk A1050
                        clear A1050
                        have HC106 := Aside0.mk H
                        clear H
                        have hnb107 := NB580_562.out
                        have hnc107 := NB562_580.out
                        have hnb108 := NB580_571.out
                        have hnc108 := NB571_580.out
                        have hnb109 := NB580_575.out
                        have hnc109 := NB575_580.out
                        have hcz110_0 : wc.cell? ⟨gb580, 0, none⟩ = some (.slice Ao35 t576.length co35) := (blk_cell BK580.out 0).trans rfl
                        have hfz110_0 := blk_frozen BK580.out 0
                        go_upto_region 27 with (first | ((with_reducible refine gate_callee (f := 19) rfl ?_); refine goesL_ (some 71) rfl rfl Tryd.func19 (by kernel_rfl) rfl #[.agg #[.slice Ao35 t576.length co35], .int .i64 1] rfl (by (try simp only [List.map_toArray, List.map_cons, List.map_nil]); first | done | rfl | (simp only [List.length_drop, List.length_take]; rfl)) ?_; (with_reducible refine (laws_markTrie.calls kj62 (fun k_ => some k_ = (.slice Ao35 t576.length co35 : Value).ownBlock) (.slice Ao35 t576.length co35) t576 1 t589 t590 w _ ?side1 ?side2 A93.out).mono ?_); (case side1 => repeat (first | (with_reducible first | exact HB.out | apply below_alloc | apply pw_below_drewN | apply below_drew1 | refine below_set ?_ GE562.out | refine below_set ?_ GE571.out | refine below_set ?_ GE575.out | refine below_set ?_ GE580.out) | exact HB.out)); (case side2 => exact Kd.R_tight rfl HO_581000.out); rintro e w111 ⟨rfl, hy0, hb, hkp⟩; refine ⟨_, rfl, ?_⟩; have n0_ := Aside0.mk (Kd.R_mono (ok' := fun k_ => some k_ ≠ (.slice Ao29 t587.length co29 : Value).ownBlock ∧ some k_ ≠ (.slice Ao35 t576.length co35 : Value).ownBlock) (Kd.R_keptB (HO_572000.out) hkp (fun k_ hk_ hs_ => (hk_.2) hs_)) (fun k_ hk_ => ⟨hk_.1.1, hk_.1.2⟩)); have n1_ := Aside0.mk (Kd.R_mono (ok' := fun k_ => some k_ ≠ (.slice Ao23 t567.length co23 : Value).ownBlock ∧ some k_ ≠ (.slice Ao35 t576.length co35 : Value).ownBlock) (Kd.R_keptB (HO_576000.out) hkp (fun k_ hk_ hs_ => (hk_.2) hs_)) (fun k_ hk_ => ⟨hk_.1.1, hk_.1.2⟩)); have n2_ := Aside0.mk (Kd.R_reok rfl hy0 (fun k_ e_ => HO_581000.out.1 k_ e_)); have n3_ := Aside0.mk (blk_kept (by (with_reducible repeat (first | refine blk_drewN ?_ _ | refine blk_drew ?_ | refine blk_alloc ?_ _)); exact BK562.out) hkp (fun hs_ => (fun e_ => (Kd.R_ne HO_581000.out BK562.out (by decide)) e_) hs_)); have n4_ := Aside0.mk (blk_kept (by (with_reducible repeat (first | refine blk_drewN ?_ _ | refine blk_drew ?_ | refine blk_alloc ?_ _)); exact BK571.out) hkp (fun hs_ => (fun e_ => (Kd.R_ne HO_581000.out BK571.out (by decide)) e_) hs_)); have n5_ := Aside0.mk (blk_kept (by (with_reducible repeat (first | refine blk_drewN ?_ _ | refine blk_drew ?_ | refine blk_alloc ?_ _)); exact BK575.out) hkp (fun hs_ => (fun e_ => (Kd.R_ne HO_581000.out BK575.out (by decide)) e_) hs_)); have n6_ := Aside0.mk (blk_kept (by (with_reducible repeat (first | refine blk_drewN ?_ _ | refine blk_drew ?_ | refine blk_alloc ?_ _)); exact BK580.out) hkp (fun hs_ => (fun e_ => (Kd.R_ne HO_581000.out BK580.out (by decide)) e_) hs_)); have n7_ := Aside0.mk (hb); clear HO_572000; clear HO_576000; clear HO_581000; clear BK562; clear BK571; clear BK575; clear BK580; clear HB; have HO_572000 := n0_; have HO_576000 := n1_; have HO_581000 := n2_; have BK562 := n3_; have BK571 := n4_; have BK575 := n5_; have BK580 := n6_; have HB := n7_; clear n0_ n1_ n2_ n3_ n4_ n5_ n6_ n7_; (try clear hb); (try clear hkp); (try clear hy0); have hcz112_0 : w111.cell? ⟨gb580, 0, none⟩ = some (.slice Ao35 t576.length co35) := (blk_cell BK580.out 0).trans rfl; have hfz112_0 := blk_frozen BK580.out 0) | ((with_reducible refine gate_callee (f := 20) rfl ?_); refine goesL_ (some 74) rfl rfl Tryd.func20 (by kernel_rfl) rfl #[.agg #[.slice Ao35 t590.length co35], .int .i64 1] rfl (by (try simp only [List.map_toArray, List.map_cons, List.map_nil]); first | done | (rw [show t590.length = t576.length from (Kd.R_reads' HO_581000.out).1.symm] <;> rfl) | rfl | (simp only [List.length_drop, List.length_take]; rfl)) ?_; (with_reducible refine (laws_heldTrie.calls kj62 _ _ t590 1 t591 _ ?side1 ?side2 A94.out).mono ?_); (case side1 => repeat (first | exact (Kd.R_reads' HO_581000.out).2.2 | (with_reducible refine Kd.C_alloc ?_ _) | (with_reducible refine Kd.C_drewN ?_ _) | (with_reducible refine Kd.C_drew ?_))); (case side2 => rw [show t590.length = t576.length from (Kd.R_reads' HO_581000.out).1.symm]; exact (Kd.R_reads' HO_581000.out).2.1); rintro e w113 ⟨rfl, hb⟩; refine ⟨_, rfl, ?_⟩; have n0_ := Aside0.mk (Kd.R_below (by (with_reducible repeat (first | apply Kd.R_alloc | apply Kd.R_drewN | apply Kd.R_drew)); exact HO_572000.out) hb); have n1_ := Aside0.mk (Kd.R_below (by (with_reducible repeat (first | apply Kd.R_alloc | apply Kd.R_drewN | apply Kd.R_drew)); exact HO_576000.out) hb); have n2_ := Aside0.mk (Kd.R_below (by (with_reducible repeat (first | apply Kd.R_alloc | apply Kd.R_drewN | apply Kd.R_drew)); exact HO_581000.out) hb); have n3_ := Aside0.mk (blk_below (g := gb562) (o := .cells #[.slice A0_0 l0_0.length c0_0] 36 (0, 0)) (by (with_reducible repeat (first | refine blk_drewN ?_ _ | refine blk_drew ?_ | refine blk_alloc ?_ _)); exact BK562.out) hb); have n4_ := Aside0.mk (blk_below (g := gb571) (o := .cells #[.slice Ao23 t567.length co23] 26 (0, 0)) (by (with_reducible repeat (first | refine blk_drewN ?_ _ | refine blk_drew ?_ | refine blk_alloc ?_ _)); exact BK571.out) hb); have n5_ := Aside0.mk (blk_below (g := gb575) (o := .cells #[.slice Ao29 t587.length co29] 26 (0, 0)) (by (with_reducible repeat (first | refine blk_drewN ?_ _ | refine blk_drew ?_ | refine blk_alloc ?_ _)); exact BK575.out) hb); have n6_ := Aside0.mk (blk_below (g := gb580) (o := .cells #[.slice Ao35 t576.length co35] 26 (0, 0)) (by (with_reducible repeat (first | refine blk_drewN ?_ _ | refine blk_drew ?_ | refine blk_alloc ?_ _)); exact BK580.out) hb); have n7_ := Aside0.mk (below_step (by repeat (first | (with_reducible first | exact HB.out | apply below_alloc | apply pw_below_drewN | apply below_drew1 | refine below_set ?_ GE562.out | refine below_set ?_ GE571.out | refine below_set ?_ GE575.out | refine below_set ?_ GE580.out) | exact HB.out)) hb); clear HO_572000; clear HO_576000; clear HO_581000; clear BK562; clear BK571; clear BK575; clear BK580; clear HB; have HO_572000 := n0_; have HO_576000 := n1_; have HO_581000 := n2_; have BK562 := n3_; have BK571 := n4_; have BK575 := n5_; have BK580 := n6_; have HB := n7_; clear n0_ n1_ n2_ n3_ n4_ n5_ n6_ n7_; (try clear hb); (try clear hb2); (try clear hk); (try clear hi); have hnb114 := NB562_571.out; have hnc114 := NB571_562.out; have hnb115 := NB562_575.out; have hnc115 := NB575_562.out; have hcz116_0 : w113.cell? ⟨gb562, 0, none⟩ = some (.slice A0_0 l0_0.length c0_0) := (blk_cell BK562.out 0).trans rfl; have hfz116_0 := blk_frozen BK562.out 0) | ((with_reducible refine gate_callee (f := 23) rfl ?_); refine goesL_ (some 82) rfl rfl Tryd.func23 (by kernel_rfl) rfl #[.agg #[.slice A0_0 l0_0.length c0_0]] rfl (by (try simp only [List.map_toArray, List.map_cons, List.map_nil]); first | done | rfl | (simp only [List.length_drop, List.length_take]; rfl)) ?_; (with_reducible refine (laws_toTrie.calls kj62 _ _ l0_0 t592 _ ?side1 ?side2 A104.out).mono ?_); (case side1 => repeat (first | exact (Kd.C_below HR0_0.out HB.out) | (with_reducible refine Kd.C_alloc ?_ _) | (with_reducible refine Kd.C_drewN ?_ _) | (with_reducible refine Kd.C_drew ?_))); (case side2 => exact HC0_0.out); rintro e w117 ⟨v593, rfl, ho0, hb⟩; refine ⟨_, rfl, ?_⟩; have n0_ := Aside0.mk (Kd.R_elder' (by (with_reducible repeat (first | apply Kd.R_alloc | apply Kd.R_drewN | apply Kd.R_drew)); exact HO_572000.out) (Kd.R_base ho0) hb); have n1_ := Aside0.mk (Kd.R_elder' (by (with_reducible repeat (first | apply Kd.R_alloc | apply Kd.R_drewN | apply Kd.R_drew)); exact HO_576000.out) (Kd.R_base ho0) hb); have n2_ := Aside0.mk (Kd.R_elder' (by (with_reducible repeat (first | apply Kd.R_alloc | apply Kd.R_drewN | apply Kd.R_drew)); exact HO_581000.out) (Kd.R_base ho0) hb); have n3_ := Aside0.mk (Kd.R_lower (Kd.R_new' (Kd.R_new' (Kd.R_new' ho0 (Kd.R_lt (by (with_reducible repeat (first | apply Kd.R_alloc | apply Kd.R_drewN | apply Kd.R_drew)); exact HO_572000.out))) (Kd.R_lt (by (with_reducible repeat (first | apply Kd.R_alloc | apply Kd.R_drewN | apply Kd.R_drew)); exact HO_576000.out))) (Kd.R_lt (by (with_reducible repeat (first | apply Kd.R_alloc | apply Kd.R_drewN | apply Kd.R_drew)); exact HO_581000.out))) (below_size (by repeat (first | (with_reducible first | exact HB.out | apply below_alloc | apply pw_below_drewN | apply below_drew1 | refine below_set ?_ GE562.out | refine below_set ?_ GE571.out | refine below_set ?_ GE575.out | refine below_set ?_ GE580.out) | exact HB.out)))); have n4_ := Aside0.mk (blk_below (g := gb562) (o := .cells #[.slice A0_0 l0_0.length c0_0] 36 (0, 0)) (by (with_reducible repeat (first | refine blk_drewN ?_ _ | refine blk_drew ?_ | refine blk_alloc ?_ _)); exact BK562.out) hb); have n5_ := Aside0.mk (blk_below (g := gb571) (o := .cells #[.slice Ao23 t567.length co23] 26 (0, 0)) (by (with_reducible repeat (first | refine blk_drewN ?_ _ | refine blk_drew ?_ | refine blk_alloc ?_ _)); exact BK571.out) hb); have n6_ := Aside0.mk (blk_below (g := gb575) (o := .cells #[.slice Ao29 t587.length co29] 26 (0, 0)) (by (with_reducible repeat (first | refine blk_drewN ?_ _ | refine blk_drew ?_ | refine blk_alloc ?_ _)); exact BK575.out) hb); have n7_ := Aside0.mk (blk_below (g := gb580) (o := .cells #[.slice Ao35 t576.length co35] 26 (0, 0)) (by (with_reducible repeat (first | refine blk_drewN ?_ _ | refine blk_drew ?_ | refine blk_alloc ?_ _)); exact BK580.out) hb); have n8_ := Aside0.mk (below_step (by repeat (first | (with_reducible first | exact HB.out | apply below_alloc | apply pw_below_drewN | apply below_drew1 | refine below_set ?_ GE562.out | refine below_set ?_ GE571.out | refine below_set ?_ GE575.out | refine below_set ?_ GE580.out) | exact HB.out)) hb); clear HO_572000; clear HO_576000; clear HO_581000; clear BK562; clear BK571; clear BK575; clear BK580; clear HB; have HO_572000 := n0_; have HO_576000 := n1_; have HO_581000 := n2_; have HO594 := n3_; have BK562 := n4_; have BK571 := n5_; have BK575 := n6_; have BK580 := n7_; have HB := n8_; clear n0_ n1_ n2_ n3_ n4_ n5_ n6_ n7_ n8_; (try clear hb); (try clear hb2); (try clear hk); (try clear hi); (try clear ho0); obtain ⟨Ao118, co118, eo118⟩ := Kd.R_slice HO594.out; subst eo118) | ((with_reducible refine gate_callee (f := 30) rfl ?_); refine goesL_ (some 84) rfl rfl Tryd.func30 (by kernel_rfl) rfl #[.agg #[.slice Ao118 t592.length co118], .string a1] rfl (by (try simp only [List.map_toArray, List.map_cons, List.map_nil]); first | done | rfl | (simp only [List.length_drop, List.length_take]; rfl)) ?_; (with_reducible refine (impl_DropWord.calls _ _ t592 a1 t595 t598 _ ?side1 ?side2 A105.out).mono ?_); (case side1 => repeat (first | exact (Kd.R_reads' HO594.out).2.2 | (with_reducible refine Kd.C_alloc ?_ _) | (with_reducible refine Kd.C_drewN ?_ _) | (with_reducible refine Kd.C_drew ?_))); (case side2 => exact (Kd.R_reads' HO594.out).2.1); rintro e w119 ⟨v596, rfl, ho0, hb⟩; refine ⟨_, rfl, ?_⟩; have n0_ := Aside0.mk (Kd.R_elder' (by (with_reducible repeat (first | apply Kd.R_alloc | apply Kd.R_drewN | apply Kd.R_drew)); exact HO_572000.out) (Kd.R_base ho0) hb); have n1_ := Aside0.mk (Kd.R_elder' (by (with_reducible repeat (first | apply Kd.R_alloc | apply Kd.R_drewN | apply Kd.R_drew)); exact HO_576000.out) (Kd.R_base ho0) hb); have n2_ := Aside0.mk (Kd.R_elder' (by (with_reducible repeat (first | apply Kd.R_alloc | apply Kd.R_drewN | apply Kd.R_drew)); exact HO_581000.out) (Kd.R_base ho0) hb); have n3_ := Aside0.mk (Kd.R_elder' (by (with_reducible repeat (first | apply Kd.R_alloc | apply Kd.R_drewN | apply Kd.R_drew)); exact HO594.out) (Kd.R_base ho0) hb); have n4_ := Aside0.mk (Kd.R_lower (Kd.R_new' (Kd.R_new' (Kd.R_new' (Kd.R_new' ho0 (Kd.R_lt (by (with_reducible repeat (first | apply Kd.R_alloc | apply Kd.R_drewN | apply Kd.R_drew)); exact HO_572000.out))) (Kd.R_lt (by (with_reducible repeat (first | apply Kd.R_alloc | apply Kd.R_drewN | apply Kd.R_drew)); exact HO_576000.out))) (Kd.R_lt (by (with_reducible repeat (first | apply Kd.R_alloc | apply Kd.R_drewN | apply Kd.R_drew)); exact HO_581000.out))) (Kd.R_lt (by (with_reducible repeat (first | apply Kd.R_alloc | apply Kd.R_drewN | apply Kd.R_drew)); exact HO594.out))) (below_size (by repeat (first | (with_reducible first | exact HB.out | apply below_alloc | apply pw_below_drewN | apply below_drew1 | refine below_set ?_ GE562.out | refine below_set ?_ GE571.out | refine below_set ?_ GE575.out | refine below_set ?_ GE580.out) | exact HB.out)))); have n5_ := Aside0.mk (blk_below (g := gb562) (o := .cells #[.slice A0_0 l0_0.length c0_0] 36 (0, 0)) (by (with_reducible repeat (first | refine blk_drewN ?_ _ | refine blk_drew ?_ | refine blk_alloc ?_ _)); exact BK562.out) hb); have n6_ := Aside0.mk (blk_below (g := gb571) (o := .cells #[.slice Ao23 t567.length co23] 26 (0, 0)) (by (with_reducible repeat (first | refine blk_drewN ?_ _ | refine blk_drew ?_ | refine blk_alloc ?_ _)); exact BK571.out) hb); have n7_ := Aside0.mk (blk_below (g := gb575) (o := .cells #[.slice Ao29 t587.length co29] 26 (0, 0)) (by (with_reducible repeat (first | refine blk_drewN ?_ _ | refine blk_drew ?_ | refine blk_alloc ?_ _)); exact BK575.out) hb); have n8_ := Aside0.mk (blk_below (g := gb580) (o := .cells #[.slice Ao35 t576.length co35] 26 (0, 0)) (by (with_reducible repeat (first | refine blk_drewN ?_ _ | refine blk_drew ?_ | refine blk_alloc ?_ _)); exact BK580.out) hb); have n9_ := Aside0.mk (below_step (by repeat (first | (with_reducible first | exact HB.out | apply below_alloc | apply pw_below_drewN | apply below_drew1 | refine below_set ?_ GE562.out | refine below_set ?_ GE571.out | refine below_set ?_ GE575.out | refine below_set ?_ GE580.out) | exact HB.out)) hb); clear HO_572000; clear HO_576000; clear HO_581000; clear HO594; clear BK562; clear BK571; clear BK575; clear BK580; clear HB; have HO_572000 := n0_; have HO_576000 := n1_; have HO_581000 := n2_; have HO594 := n3_; have HO597 := n4_; have BK562 := n5_; have BK571 := n6_; have BK575 := n7_; have BK580 := n8_; have HB := n9_; clear n0_ n1_ n2_ n3_ n4_ n5_ n6_ n7_ n8_ n9_; (try clear hb); (try clear hb2); (try clear hk); (try clear hi); (try clear ho0)) | ((with_reducible refine gate_dst (N := 14) rfl ?_); refine box_event ?hg (N := 14) ?hd (cs := #[.slice none 0 0]) (t := 26) ?hr ?_; (case hd => rfl); (case hg => rfl); (case hr => first | (go_simp; done) | (go_simp; rfl)); intro gb599 hg w120 hbox hb; have n0_ := Aside0.mk (Kd.R_below (by (with_reducible repeat (first | apply Kd.R_alloc | apply Kd.R_drewN | apply Kd.R_drew)); exact HO_572000.out) hb); have n1_ := Aside0.mk (Kd.R_below (by (with_reducible repeat (first | apply Kd.R_alloc | apply Kd.R_drewN | apply Kd.R_drew)); exact HO_576000.out) hb); have n2_ := Aside0.mk (Kd.R_below (by (with_reducible repeat (first | apply Kd.R_alloc | apply Kd.R_drewN | apply Kd.R_drew)); exact HO_581000.out) hb); have n3_ := Aside0.mk (Kd.R_below (by (with_reducible repeat (first | apply Kd.R_alloc | apply Kd.R_drewN | apply Kd.R_drew)); exact HO594.out) hb); have n4_ := Aside0.mk (Kd.R_below (by (with_reducible repeat (first | apply Kd.R_alloc | apply Kd.R_drewN | apply Kd.R_drew)); exact HO597.out) hb); have n5_ := Aside0.mk (blk_below (g := gb562) (o := .cells #[.slice A0_0 l0_0.length c0_0] 36 (0, 0)) (by (with_reducible repeat (first | refine blk_drewN ?_ _ | refine blk_drew ?_ | refine blk_alloc ?_ _)); exact BK562.out) hb); have n6_ := Aside0.mk (blk_below (g := gb571) (o := .cells #[.slice Ao23 t567.length co23] 26 (0, 0)) (by (with_reducible repeat (first | refine blk_drewN ?_ _ | refine blk_drew ?_ | refine blk_alloc ?_ _)); exact BK571.out) hb); have n7_ := Aside0.mk (blk_below (g := gb575) (o := .cells #[.slice Ao29 t587.length co29] 26 (0, 0)) (by (with_reducible repeat (first | refine blk_drewN ?_ _ | refine blk_drew ?_ | refine blk_alloc ?_ _)); exact BK575.out) hb); have n8_ := Aside0.mk (blk_below (g := gb580) (o := .cells #[.slice Ao35 t576.length co35] 26 (0, 0)) (by (with_reducible repeat (first | refine blk_drewN ?_ _ | refine blk_drew ?_ | refine blk_alloc ?_ _)); exact BK580.out) hb); have n9_ := Aside0.mk (below_step (by repeat (first | (with_reducible first | exact HB.out | apply below_alloc | apply pw_below_drewN | apply below_drew1 | refine below_set ?_ GE562.out | refine below_set ?_ GE571.out | refine below_set ?_ GE575.out | refine below_set ?_ GE580.out) | exact HB.out)) hb); have n10_ := Aside0.mk (hbox); have n11_ := Aside0.mk ((by rw [hg]; exact (below_size (by repeat (first | (with_reducible first | exact HB.out | apply below_alloc | apply pw_below_drewN | apply below_drew1 | refine below_set ?_ GE562.out | refine below_set ?_ GE571.out | refine below_set ?_ GE575.out | refine below_set ?_ GE580.out) | exact HB.out))) : w.heap.size ≤ gb599)); have n12_ := Aside0.mk ((by rw [hg]; exact (below_size (by repeat (first | (with_reducible first | exact HB.out | apply below_alloc | apply pw_below_drewN | apply below_drew1 | refine below_set ?_ GE562.out | refine below_set ?_ GE571.out | refine below_set ?_ GE575.out | refine below_set ?_ GE580.out) | exact HB.out))) : w.heap.size ≤ gb599)); have n13_ := Aside0.mk ((by rw [hg]; exact Nat.ne_of_lt (blk_lt (g := gb562) (o := .cells #[.slice A0_0 l0_0.length c0_0] 36 (0, 0)) (by (with_reducible repeat (first | refine blk_drewN ?_ _ | refine blk_drew ?_ | refine blk_alloc ?_ _)); exact BK562.out)) : gb562 ≠ gb599)); have n14_ := Aside0.mk ((by rw [hg]; exact Nat.ne_of_gt (blk_lt (g := gb562) (o := .cells #[.slice A0_0 l0_0.length c0_0] 36 (0, 0)) (by (with_reducible repeat (first | refine blk_drewN ?_ _ | refine blk_drew ?_ | refine blk_alloc ?_ _)); exact BK562.out)) : gb599 ≠ gb562)); have n15_ := Aside0.mk ((by rw [hg]; exact Nat.ne_of_lt (blk_lt (g := gb571) (o := .cells #[.slice Ao23 t567.length co23] 26 (0, 0)) (by (with_reducible repeat (first | refine blk_drewN ?_ _ | refine blk_drew ?_ | refine blk_alloc ?_ _)); exact BK571.out)) : gb571 ≠ gb599)); have n16_ := Aside0.mk ((by rw [hg]; exact Nat.ne_of_gt (blk_lt (g := gb571) (o := .cells #[.slice Ao23 t567.length co23] 26 (0, 0)) (by (with_reducible repeat (first | refine blk_drewN ?_ _ | refine blk_drew ?_ | refine blk_alloc ?_ _)); exact BK571.out)) : gb599 ≠ gb571)); have n17_ := Aside0.mk ((by rw [hg]; exact Nat.ne_of_lt (blk_lt (g := gb575) (o := .cells #[.slice Ao29 t587.length co29] 26 (0, 0)) (by (with_reducible repeat (first | refine blk_drewN ?_ _ | refine blk_drew ?_ | refine blk_alloc ?_ _)); exact BK575.out)) : gb575 ≠ gb599)); have n18_ := Aside0.mk ((by rw [hg]; exact Nat.ne_of_gt (blk_lt (g := gb575) (o := .cells #[.slice Ao29 t587.length co29] 26 (0, 0)) (by (with_reducible repeat (first | refine blk_drewN ?_ _ | refine blk_drew ?_ | refine blk_alloc ?_ _)); exact BK575.out)) : gb599 ≠ gb575)); have n19_ := Aside0.mk ((by rw [hg]; exact Nat.ne_of_lt (blk_lt (g := gb580) (o := .cells #[.slice Ao35 t576.length co35] 26 (0, 0)) (by (with_reducible repeat (first | refine blk_drewN ?_ _ | refine blk_drew ?_ | refine blk_alloc ?_ _)); exact BK580.out)) : gb580 ≠ gb599)); have n20_ := Aside0.mk ((by rw [hg]; exact Nat.ne_of_gt (blk_lt (g := gb580) (o := .cells #[.slice Ao35 t576.length co35] 26 (0, 0)) (by (with_reducible repeat (first | refine blk_drewN ?_ _ | refine blk_drew ?_ | refine blk_alloc ?_ _)); exact BK580.out)) : gb599 ≠ gb580)); clear HO_572000; clear HO_576000; clear HO_581000; clear HO594; clear HO597; clear BK562; clear BK571; clear BK575; clear BK580; clear HB; have HO_572000 := n0_; have HO_576000 := n1_; have HO_581000 := n2_; have HO594 := n3_; have HO597 := n4_; have BK562 := n5_; have BK571 := n6_; have BK575 := n7_; have BK580 := n8_; have HB := n9_; have BK599 := n10_; have GW599 := n11_; have GE599 := n12_; have NB562_599 := n13_; have NB599_562 := n14_; have NB571_599 := n15_; have NB599_571 := n16_; have NB575_599 := n17_; have NB599_575 := n18_; have NB580_599 := n19_; have NB599_580 := n20_; clear n0_ n1_ n2_ n3_ n4_ n5_ n6_ n7_ n8_ n9_ n10_ n11_ n12_ n13_ n14_ n15_ n16_ n17_ n18_ n19_ n20_; clear hb hbox hg; obtain ⟨Ao121, co121, eo121⟩ := Kd.R_slice HO597.out; subst eo121; have hnb122 := NB599_562.out; have hnc122 := NB562_599.out; have hnb123 := NB599_571.out; have hnc123 := NB571_599.out; have hnb124 := NB599_575.out; have hnc124 := NB575_599.out; have hnb125 := NB599_580.out; have hnc125 := NB580_599.out; have hcz126_0 : w120.cell? ⟨gb599, 0, none⟩ = some (.slice none 0 0) := (blk_cell BK599.out 0).trans rfl; have hfz126_0 := blk_frozen BK599.out 0))
                        (try simp only [Act.put, List.setIfInBounds_toArray, List.set_cons_zero, List.set_cons_succ])
                        go_cut [95] (fun v95 wc => ∃ (kq : Nat) (x95_105 : Bool), v95 = .bool x95_105 ∧ Aside0 (laws_FnExactDropWord.j2 kq t589 x95_105 t590 = some true) ∧ Aside0 (kq ≤ kj62) ∧ Aside0 (Kd.R k76 76 wc w.heap.size (fun k_ => some k_ ≠ ((.slice Ao29 t587.length co29) : Value).ownBlock ∧ some k_ ≠ ((.slice Ao35 t576.length co35) : Value).ownBlock ∧ some k_ ≠ ((.slice Ao121 t595.length co121) : Value).ownBlock) (.slice Ao23 t567.length co23) t567) ∧ Aside0 (Kd.R k76 76 wc w.heap.size (fun k_ => some k_ ≠ ((.slice Ao23 t567.length co23) : Value).ownBlock ∧ some k_ ≠ ((.slice Ao35 t576.length co35) : Value).ownBlock ∧ some k_ ≠ ((.slice Ao121 t595.length co121) : Value).ownBlock) (.slice Ao29 t587.length co29) t587) ∧ Aside0 (Kd.R k76 76 wc w.heap.size (fun k_ => some k_ ≠ ((.slice Ao23 t567.length co23) : Value).ownBlock ∧ some k_ ≠ ((.slice Ao29 t587.length co29) : Value).ownBlock ∧ some k_ ≠ ((.slice Ao121 t595.length co121) : Value).ownBlock) (.slice Ao35 t576.length co35) t590) ∧ Aside0 (Kd.R k76 76 wc w.heap.size (fun k_ => some k_ ≠ ((.slice Ao23 t567.length co23) : Value).ownBlock ∧ some k_ ≠ ((.slice Ao29 t587.length co29) : Value).ownBlock ∧ some k_ ≠ ((.slice Ao35 t576.length co35) : Value).ownBlock) (.slice Ao121 t595.length co121) t595) ∧ Aside0 (wc.heap[gb562]? = some (.cells #[(.slice A0_0 l0_0.length c0_0)] 36 (0, 0))) ∧ Aside0 (wc.heap[gb571]? = some (.cells #[(.slice Ao23 t567.length co23)] 26 (0, 0))) ∧ Aside0 (wc.heap[gb575]? = some (.cells #[(.slice Ao29 t587.length co29)] 26 (0, 0))) ∧ Aside0 (wc.heap[gb580]? = some (.cells #[(.slice Ao35 t576.length co35)] 26 (0, 0))) ∧ Aside0 (wc.heap[gb599]? = some (.cells #[(.slice Ao121 t595.length co121)] 26 (0, 0))) ∧ Aside0 (Below w.heap.size w wc))
                        case first =>
                          have H := HC106.out
                          clear HC106
                          replace H := Option.bind_eq_some_iff.mp H
                          obtain ⟨t600, A1270, H⟩ := H
                          replace H : (if t600 = true then (laws_FnExactDropWord.j2 kj62 t589 (t598 != t570) t590) else (laws_FnExactDropWord.j2 kj62 t589 true t590)) = some true := H
                          have A127 := Aside0.mk A1270
                          clear A1270
                          by_cases c128 : t600 = true
                          · subst c128
                            have H1 : (laws_FnExactDropWord.j2 kj62 t589 (t598 != t570) t590) = some true := by rw [if_pos rfl] at H; exact H
                            clear H
                            have H := H1
                            clear H1
                            have H' := Aside0.mk H
                            clear H
                            have hnb129 := NB599_562.out
                            have hnc129 := NB562_599.out
                            have hnb130 := NB599_571.out
                            have hnc130 := NB571_599.out
                            have hnb131 := NB599_575.out
                            have hnc131 := NB575_599.out
                            have hnb132 := NB599_580.out
                            have hnc132 := NB580_599.out
                            have hcz133_0 : w120.cell? ⟨gb599, 0, none⟩ = some (.slice none 0 0) := (blk_cell BK599.out 0).trans rfl
                            have hfz133_0 := blk_frozen BK599.out 0
                            have hnb134 := NB571_562.out
                            have hnc134 := NB562_571.out
                            have hnb135 := NB571_575.out
                            have hnc135 := NB575_571.out
                            have hnb136 := NB571_580.out
                            have hnc136 := NB580_571.out
                            have hcz137_0 : w120.cell? ⟨gb571, 0, none⟩ = some (.slice Ao23 t567.length co23) := (blk_cell BK571.out 0).trans rfl
                            have hfz137_0 := blk_frozen BK571.out 0
                            go_wp2_with (first | ((with_reducible refine gate_callee (f := 16) rfl ?_); refine goesL_ (some 89) rfl rfl Tryd.func16 (by kernel_rfl) rfl #[.agg #[.slice Ao121 t595.length co121], .agg #[.slice Ao23 t567.length co23]] rfl (by (try simp only [List.map_toArray, List.map_cons, List.map_nil]); first | done | rfl | (simp only [List.length_drop, List.length_take]; rfl)) ?_; (with_reducible refine (laws_eqTrie.calls kj62 _ _ t595 _ _ t567 true _ ?side1 ?side2 ?side3 ?side4 A127.out).mono ?_); (case side1 => refine (Kd.R_reads' (e := 76) (base := w.heap.size) (ok := fun k_ => ((((True ∧ some k_ ≠ (.slice Ao23 t567.length co23 : Value).ownBlock) ∧ some k_ ≠ (.slice Ao29 t587.length co29 : Value).ownBlock) ∧ some k_ ≠ (.slice Ao35 t576.length co35 : Value).ownBlock) ∧ some k_ ≠ (.slice Ao118 t592.length co118 : Value).ownBlock)) (n := t595.length) (c := co121) ?_).2.2; exact (by (with_reducible repeat (first | apply Kd.R_alloc | apply Kd.R_drewN | apply Kd.R_drew)); exact (Kd.R_mono (R_same_ (Kd.R_far (p := ⟨gb599, 0, none⟩) (Kd.R_types HO597.out BK599.out (by decide)) (fun _ hk => hk.2) (.slice Ao121 t595.length co121)) rfl) (fun _ h_ => h_.1)))); (case side2 => exact (Kd.R_reads' HO597.out).2.1); (case side3 => refine (Kd.R_reads' (e := 76) (base := w.heap.size) (ok := fun k_ => (((some k_ ≠ (.slice Ao29 t587.length co29 : Value).ownBlock ∧ some k_ ≠ (.slice Ao35 t576.length co35 : Value).ownBlock) ∧ some k_ ≠ (.slice Ao118 t592.length co118 : Value).ownBlock) ∧ some k_ ≠ (.slice Ao121 t595.length co121 : Value).ownBlock)) (n := t567.length) (c := co23) ?_).2.2; exact (by (with_reducible repeat (first | apply Kd.R_alloc | apply Kd.R_drewN | apply Kd.R_drew)); exact (Kd.R_mono (R_same_ (Kd.R_far (p := ⟨gb599, 0, none⟩) (Kd.R_types HO_572000.out BK599.out (by decide)) (fun _ hk => hk.2) (.slice Ao121 t595.length co121)) rfl) (fun _ h_ => h_.1)))); (case side4 => exact (Kd.R_reads' HO_572000.out).2.1); rintro e w138 ⟨rfl, hb⟩; refine ⟨_, rfl, ?_⟩; have n0_ := Aside0.mk (Kd.R_below (by (with_reducible repeat (first | apply Kd.R_alloc | apply Kd.R_drewN | apply Kd.R_drew)); exact (Kd.R_mono (R_same_ (Kd.R_far (p := ⟨gb599, 0, none⟩) (Kd.R_types HO_572000.out BK599.out (by decide)) (fun _ hk => hk.2) (.slice Ao121 t595.length co121)) rfl) (fun _ h_ => h_.1))) hb); have n1_ := Aside0.mk (Kd.R_below (by (with_reducible repeat (first | apply Kd.R_alloc | apply Kd.R_drewN | apply Kd.R_drew)); exact (Kd.R_mono (R_same_ (Kd.R_far (p := ⟨gb599, 0, none⟩) (Kd.R_types HO_576000.out BK599.out (by decide)) (fun _ hk => hk.2) (.slice Ao121 t595.length co121)) rfl) (fun _ h_ => h_.1))) hb); have n2_ := Aside0.mk (Kd.R_below (by (with_reducible repeat (first | apply Kd.R_alloc | apply Kd.R_drewN | apply Kd.R_drew)); exact (Kd.R_mono (R_same_ (Kd.R_far (p := ⟨gb599, 0, none⟩) (Kd.R_types HO_581000.out BK599.out (by decide)) (fun _ hk => hk.2) (.slice Ao121 t595.length co121)) rfl) (fun _ h_ => h_.1))) hb); have n3_ := Aside0.mk (Kd.R_below (by (with_reducible repeat (first | apply Kd.R_alloc | apply Kd.R_drewN | apply Kd.R_drew)); exact (Kd.R_mono (R_same_ (Kd.R_far (p := ⟨gb599, 0, none⟩) (Kd.R_types HO594.out BK599.out (by decide)) (fun _ hk => hk.2) (.slice Ao121 t595.length co121)) rfl) (fun _ h_ => h_.1))) hb); have n4_ := Aside0.mk (Kd.R_below (by (with_reducible repeat (first | apply Kd.R_alloc | apply Kd.R_drewN | apply Kd.R_drew)); exact (Kd.R_mono (R_same_ (Kd.R_far (p := ⟨gb599, 0, none⟩) (Kd.R_types HO597.out BK599.out (by decide)) (fun _ hk => hk.2) (.slice Ao121 t595.length co121)) rfl) (fun _ h_ => h_.1))) hb); have n5_ := Aside0.mk (blk_below (g := gb562) (o := .cells #[.slice A0_0 l0_0.length c0_0] 36 (0, 0)) (by (with_reducible repeat (first | refine blk_drewN ?_ _ | refine blk_drew ?_ | refine blk_alloc ?_ _)); refine blk_far ?_ NB562_599.out _; (with_reducible repeat (first | refine blk_drewN ?_ _ | refine blk_drew ?_ | refine blk_alloc ?_ _)); exact BK562.out) hb); have n6_ := Aside0.mk (blk_below (g := gb571) (o := .cells #[.slice Ao23 t567.length co23] 26 (0, 0)) (by (with_reducible repeat (first | refine blk_drewN ?_ _ | refine blk_drew ?_ | refine blk_alloc ?_ _)); refine blk_far ?_ NB571_599.out _; (with_reducible repeat (first | refine blk_drewN ?_ _ | refine blk_drew ?_ | refine blk_alloc ?_ _)); exact BK571.out) hb); have n7_ := Aside0.mk (blk_below (g := gb575) (o := .cells #[.slice Ao29 t587.length co29] 26 (0, 0)) (by (with_reducible repeat (first | refine blk_drewN ?_ _ | refine blk_drew ?_ | refine blk_alloc ?_ _)); refine blk_far ?_ NB575_599.out _; (with_reducible repeat (first | refine blk_drewN ?_ _ | refine blk_drew ?_ | refine blk_alloc ?_ _)); exact BK575.out) hb); have n8_ := Aside0.mk (blk_below (g := gb580) (o := .cells #[.slice Ao35 t576.length co35] 26 (0, 0)) (by (with_reducible repeat (first | refine blk_drewN ?_ _ | refine blk_drew ?_ | refine blk_alloc ?_ _)); refine blk_far ?_ NB580_599.out _; (with_reducible repeat (first | refine blk_drewN ?_ _ | refine blk_drew ?_ | refine blk_alloc ?_ _)); exact BK580.out) hb); have n9_ := Aside0.mk (blk_below (g := gb599) (o := .cells #[.slice Ao121 t595.length co121] 26 (0, 0)) (by (with_reducible repeat (first | refine blk_drewN ?_ _ | refine blk_drew ?_ | refine blk_alloc ?_ _)); refine blk_put (cs := #[.slice none 0 0]) ?_ 0 _ rfl; (with_reducible repeat (first | refine blk_drewN ?_ _ | refine blk_drew ?_ | refine blk_alloc ?_ _)); exact BK599.out) hb); have n10_ := Aside0.mk (below_step (by repeat (first | (with_reducible first | exact HB.out | apply below_alloc | apply pw_below_drewN | apply below_drew1 | refine below_set ?_ GE562.out | refine below_set ?_ GE571.out | refine below_set ?_ GE575.out | refine below_set ?_ GE580.out | refine below_set ?_ GE599.out) | exact HB.out)) hb); clear HO_572000; clear HO_576000; clear HO_581000; clear HO594; clear HO597; clear BK562; clear BK571; clear BK575; clear BK580; clear BK599; clear HB; have HO_572000 := n0_; have HO_576000 := n1_; have HO_581000 := n2_; have HO594 := n3_; have HO597 := n4_; have BK562 := n5_; have BK571 := n6_; have BK575 := n7_; have BK580 := n8_; have BK599 := n9_; have HB := n10_; clear n0_ n1_ n2_ n3_ n4_ n5_ n6_ n7_ n8_ n9_ n10_; (try clear hb); (try clear hb2); (try clear hk); (try clear hi)))
                            go_meet
                            case rel => exact ⟨_, ((t598 != t570)), (by first | rfl | (simp; done) | (simp [*]; done)), H', ⟨by have := HJ13.out; have := HJ62.out; first | omega | exact Nat.le_refl _⟩, ⟨by (try simp only [hl576000_62]); (with_reducible repeat (first | apply Kd.R_alloc | apply Kd.R_drewN | apply Kd.R_drew)); exact Kd.R_mono HO_572000.out (fun _ hk => ⟨hk.1.1.1, ⟨hk.1.1.2, hk.2⟩⟩)⟩, ⟨by (try simp only [hl576000_62]); (with_reducible repeat (first | apply Kd.R_alloc | apply Kd.R_drewN | apply Kd.R_drew)); exact Kd.R_mono HO_576000.out (fun _ hk => ⟨hk.1.1.1, ⟨hk.1.1.2, hk.2⟩⟩)⟩, ⟨by (try simp only [hl576000_62]); (with_reducible repeat (first | apply Kd.R_alloc | apply Kd.R_drewN | apply Kd.R_drew)); exact Kd.R_mono HO_581000.out (fun _ hk => ⟨hk.1.1.1, ⟨hk.1.1.2, hk.2⟩⟩)⟩, ⟨by (try simp only [hl576000_62]); (with_reducible repeat (first | apply Kd.R_alloc | apply Kd.R_drewN | apply Kd.R_drew)); exact Kd.R_mono HO597.out (fun _ hk => ⟨hk.1.1.1.2, ⟨hk.1.1.2, hk.1.2⟩⟩)⟩, ⟨by (try simp only [hl576000_62]); (with_reducible repeat (first | refine blk_drewN ?_ _ | refine blk_drew ?_ | refine blk_alloc ?_ _)); exact BK562.out⟩, ⟨by (try simp only [hl576000_62]); (with_reducible repeat (first | refine blk_drewN ?_ _ | refine blk_drew ?_ | refine blk_alloc ?_ _)); exact BK571.out⟩, ⟨by (try simp only [hl576000_62]); (with_reducible repeat (first | refine blk_drewN ?_ _ | refine blk_drew ?_ | refine blk_alloc ?_ _)); exact BK575.out⟩, ⟨by (try simp only [hl576000_62]); (with_reducible repeat (first | refine blk_drewN ?_ _ | refine blk_drew ?_ | refine blk_alloc ?_ _)); exact BK580.out⟩, ⟨by (try simp only [hl576000_62]); (with_reducible repeat (first | refine blk_drewN ?_ _ | refine blk_drew ?_ | refine blk_alloc ?_ _)); exact BK599.out⟩, ⟨by repeat (first | (with_reducible first | exact HB.out | apply below_alloc | apply pw_below_drewN | apply below_drew1 | refine below_set ?_ GE562.out | refine below_set ?_ GE571.out | refine below_set ?_ GE575.out | refine below_set ?_ GE580.out | refine below_set ?_ GE599.out) | exact HB.out)⟩⟩
                          · replace c128 := Bool.eq_false_iff.mpr c128
                            subst c128
                            have H1 : (laws_FnExactDropWord.j2 kj62 t589 true t590) = some true := by rw [if_neg (show ¬ (false = true) by decide)] at H; exact H
                            exact absurd H1 (by cases kj62 <;> simp [laws_FnExactDropWord.j2])
                        case rest =>
                          clear HC106
                          try clear c1
                          try clear c2
                          try clear p2
                          try clear c3
                          try clear c3b0
                          try clear c3b1
                          try clear c4
                          try clear c5
                          try clear c6
                          try clear c6b0
                          try clear c7
                          try clear c8
                          try clear c9
                          try clear c10
                          try clear c11
                          try clear c12
                          try clear c13
                          try clear c14
                          try clear c16
                          try clear c19
                          try clear c20
                          try clear c21
                          try clear c23
                          try clear c24
                          try clear c29
                          try clear c30
                          try clear c31
                          try clear c36
                          try clear c37
                          try clear c38
                          try clear c41
                          try clear c42
                          try clear c43
                          try clear c44
                          try clear c46
                          try clear c47
                          try clear c50
                          try clear c51
                          try clear c52
                          try clear c54
                          try clear c55
                          try clear c58
                          try clear c61
                          try clear c68
                          try clear c69
                          try clear c70
                          try clear c73
                          try clear c73b0
                          try clear c75
                          try clear c76
                          try clear c77
                          try clear c78
                          try clear c80
                          try clear c81
                          try clear c84
                          try clear c85
                          try clear c86
                          try clear c88
                          try clear c89
                          try clear c92
                          try clear c95
                          try clear c95b0
                          try clear c96
                          try clear c97
                          try clear c98
                          try clear c103
                          try clear c103b0
                          try clear c103b1
                          try clear c107
                          try clear c108
                          try clear c109
                          try clear c114
                          try clear c115
                          try clear c122
                          try clear c123
                          try clear c124
                          try clear c125
                          try clear c128
                          try clear c129
                          try clear c130
                          try clear c131
                          try clear c132
                          try clear c134
                          try clear c135
                          try clear c136
                          try clear c139
                          try clear c140
                          try clear c141
                          try clear c142
                          try clear c144
                          try clear c145
                          try clear c146
                          try clear hcz101_0
                          try clear hcz110_0
                          try clear hcz112_0
                          try clear hcz116_0
                          try clear hcz126_0
                          try clear hcz133_0
                          try clear hcz137_0
                          try clear hcz143_0
                          try clear hcz147_0
                          try clear hcz16_0
                          try clear hcz18_0
                          try clear hcz25_0
                          try clear hcz26_0
                          try clear hcz32_0
                          try clear hcz39_0
                          try clear hcz45_0
                          try clear hcz48_0
                          try clear hcz53_0
                          try clear hcz56_0
                          try clear hcz71_0
                          try clear hcz79_0
                          try clear hcz82_0
                          try clear hcz87_0
                          try clear hcz8_0
                          try clear hcz90_0
                          try clear hcz99_0
                          try clear hfz101_0
                          try clear hfz110_0
                          try clear hfz112_0
                          try clear hfz116_0
                          try clear hfz126_0
                          try clear hfz133_0
                          try clear hfz137_0
                          try clear hfz143_0
                          try clear hfz147_0
                          try clear hfz16_0
                          try clear hfz18_0
                          try clear hfz25_0
                          try clear hfz26_0
                          try clear hfz32_0
                          try clear hfz39_0
                          try clear hfz45_0
                          try clear hfz48_0
                          try clear hfz53_0
                          try clear hfz56_0
                          try clear hfz71_0
                          try clear hfz79_0
                          try clear hfz82_0
                          try clear hfz87_0
                          try clear hfz8_0
                          try clear hfz90_0
                          try clear hfz99_0
                          try clear p2
                          obtain ⟨kq, x95_105, rfl, HA, HJ105, HO_572000, HO_576000, HO_581000, HO_600000, BK562, BK571, BK575, BK580, BK599, HB⟩ := hcut
                          have hl581000_105 := (Kd.R_reads' HO_581000.out).1
                          rw [hl581000_105] at HO_581000
                          (try simp only [hl581000_105])
                          (try simp only [hl581000_105] at BK562)
                          (try simp only [hl581000_105] at BK571)
                          (try simp only [hl581000_105] at BK575)
                          (try simp only [hl581000_105] at BK580)
                          (try simp only [hl581000_105] at BK599)
                          (try simp only [hl581000_105] at HO_572000)
                          (try simp only [hl581000_105] at HO_576000)
                          (try simp only [hl581000_105] at HO_600000)
                          cases kq with
                          | zero => exact absurd HA.out (by simp [laws_FnExactDropWord.j2])
                          | succ kj105 =>
                            have H := HA.out
                            clear HA
                            simp only [laws_FnExactDropWord.j2] at H
                            by_cases c149 : x95_105 = true
                            · subst c149
                              have H1 : (some false) = some true := by rw [if_pos rfl] at H; exact H
                              exact absurd H1 (by simp)
                            · replace c149 := Bool.eq_false_iff.mpr c149
                              subst c149
                              have H1 : ((laws_heldTrie.f kj105 t590 1).bind fun t601 => (if t601 < 0 then (some false) else (if t601 = t589 then (some true) else (some false)))) = some true := by rw [if_neg (show ¬ (false = true) by decide)] at H; exact H
                              clear H
                              have H := H1
                              clear H1
                              replace H := Option.bind_eq_some_iff.mp H
                              obtain ⟨t601, A1500, H⟩ := H
                              replace H : (if t601 < 0 then (some false) else (if t601 = t589 then (some true) else (some false))) = some true := H
                              have A150 := Aside0.mk A1500
                              clear A1500
                              by_cases c151 : t601 < 0
                              · rw [if_pos c151] at H
                                exact absurd H (by simp)
                              · rw [if_neg c151] at H
                                have c151b0 : decide (t601 < 0) = false := decide_eq_false c151
                                clear c151
                                by_cases c158 : t601 = t589
                                · rw [if_pos c158] at H
                                  have c158b0 : (t601 == t589) = true := beq_iff_eq.mpr c158
                                  have c158b1 : (t601 != t589) = false := bne_eq_false_iff_eq.mpr c158
                                  clear c158
                                  (first | (obtain rfl := Option.some.inj H) | (have hH_ := Option.some.inj H; try simp only [hH_]))
                                  have hnb159 := NB580_562.out
                                  have hnc159 := NB562_580.out
                                  have hnb160 := NB580_571.out
                                  have hnc160 := NB571_580.out
                                  have hnb161 := NB580_575.out
                                  have hnc161 := NB575_580.out
                                  have hnb162 := NB580_599.out
                                  have hnc162 := NB599_580.out
                                  have hcz163_0 : wc.cell? ⟨gb580, 0, none⟩ = some (.slice Ao35 t590.length co35) := (blk_cell BK580.out 0).trans rfl
                                  have hfz163_0 := blk_frozen BK580.out 0
                                  go_wp2_with (first | ((with_reducible refine gate_callee (f := 20) rfl ?_); refine goesL_ (some 98) rfl rfl Tryd.func20 (by kernel_rfl) rfl #[.agg #[.slice Ao35 t590.length co35], .int .i64 1] rfl (by (try simp only [List.map_toArray, List.map_cons, List.map_nil]); first | done | rfl | (simp only [List.length_drop, List.length_take]; rfl)) ?_; (with_reducible refine (laws_heldTrie.calls kj105 _ _ t590 1 t601 _ ?side1 ?side2 A150.out).mono ?_); (case side1 => repeat (first | exact (Kd.R_reads' HO_581000.out).2.2 | (with_reducible refine Kd.C_alloc ?_ _) | (with_reducible refine Kd.C_drewN ?_ _) | (with_reducible refine Kd.C_drew ?_))); (case side2 => exact (Kd.R_reads' HO_581000.out).2.1); rintro e w164 ⟨rfl, hb⟩; refine ⟨_, rfl, ?_⟩; have n0_ := Aside0.mk (Kd.R_below (by (with_reducible repeat (first | apply Kd.R_alloc | apply Kd.R_drewN | apply Kd.R_drew)); exact HO_572000.out) hb); have n1_ := Aside0.mk (Kd.R_below (by (with_reducible repeat (first | apply Kd.R_alloc | apply Kd.R_drewN | apply Kd.R_drew)); exact HO_576000.out) hb); have n2_ := Aside0.mk (Kd.R_below (by (with_reducible repeat (first | apply Kd.R_alloc | apply Kd.R_drewN | apply Kd.R_drew)); exact HO_581000.out) hb); have n3_ := Aside0.mk (Kd.R_below (by (with_reducible repeat (first | apply Kd.R_alloc | apply Kd.R_drewN | apply Kd.R_drew)); exact HO_600000.out) hb); have n4_ := Aside0.mk (blk_below (g := gb562) (o := .cells #[.slice A0_0 l0_0.length c0_0] 36 (0, 0)) (by (with_reducible repeat (first | refine blk_drewN ?_ _ | refine blk_drew ?_ | refine blk_alloc ?_ _)); exact BK562.out) hb); have n5_ := Aside0.mk (blk_below (g := gb571) (o := .cells #[.slice Ao23 t567.length co23] 26 (0, 0)) (by (with_reducible repeat (first | refine blk_drewN ?_ _ | refine blk_drew ?_ | refine blk_alloc ?_ _)); exact BK571.out) hb); have n6_ := Aside0.mk (blk_below (g := gb575) (o := .cells #[.slice Ao29 t587.length co29] 26 (0, 0)) (by (with_reducible repeat (first | refine blk_drewN ?_ _ | refine blk_drew ?_ | refine blk_alloc ?_ _)); exact BK575.out) hb); have n7_ := Aside0.mk (blk_below (g := gb580) (o := .cells #[.slice Ao35 t590.length co35] 26 (0, 0)) (by (with_reducible repeat (first | refine blk_drewN ?_ _ | refine blk_drew ?_ | refine blk_alloc ?_ _)); exact BK580.out) hb); have n8_ := Aside0.mk (blk_below (g := gb599) (o := .cells #[.slice Ao121 t595.length co121] 26 (0, 0)) (by (with_reducible repeat (first | refine blk_drewN ?_ _ | refine blk_drew ?_ | refine blk_alloc ?_ _)); exact BK599.out) hb); have n9_ := Aside0.mk (below_step (by repeat (first | (with_reducible first | exact HB.out | apply below_alloc | apply pw_below_drewN | apply below_drew1 | refine below_set ?_ GE562.out | refine below_set ?_ GE571.out | refine below_set ?_ GE575.out | refine below_set ?_ GE580.out | refine below_set ?_ GE599.out) | exact HB.out)) hb); clear HO_572000; clear HO_576000; clear HO_581000; clear HO_600000; clear BK562; clear BK571; clear BK575; clear BK580; clear BK599; clear HB; have HO_572000 := n0_; have HO_576000 := n1_; have HO_581000 := n2_; have HO_600000 := n3_; have BK562 := n4_; have BK571 := n5_; have BK575 := n6_; have BK580 := n7_; have BK599 := n8_; have HB := n9_; clear n0_ n1_ n2_ n3_ n4_ n5_ n6_ n7_ n8_ n9_; (try clear hb); (try clear hb2); (try clear hk); (try clear hi)))
                                  go_ret
                                  exact ⟨by first | rfl | (simp [errW_none, errW_some] <;> rfl) | (simp [*, errW_none, errW_some] <;> rfl), by repeat (first | (with_reducible first | exact HB.out | apply below_alloc | apply pw_below_drewN | apply below_drew1 | refine below_set ?_ GE562.out | refine below_set ?_ GE571.out | refine below_set ?_ GE575.out | refine below_set ?_ GE580.out | refine below_set ?_ GE599.out) | exact HB.out)⟩
                                · rw [if_neg c158] at H
                                  exact absurd H (by simp)
                      · rw [if_neg c103] at H
                        exact absurd H (by simp)
            · replace c61 := Bool.eq_false_iff.mpr c61
              subst c61
              have H1 : (some false) = some true := by rw [if_neg (show ¬ (false = true) by decide)] at H; exact H
              exact absurd H1 (by simp)
end Go.Proofs.YtefcbnlljpdjnaaDoor.Q
namespace Go.Proofs.YtefcbnlljpdjnaaDoor.Q
open Go.RowKit Go.Proofs.YtefcbnlljpdjnaaDoorW.PrintWords Go.Proofs.YtefcbnlljpdjnaaDoorW.PrintLast
theorem drop_list {ws : List ByteArray} (hs : SS ws) {w : ByteArray} (hw : w ∈ ws) : ws.take (ws.findIdx (fun y => decide (y = w))) ++ ws.drop (ws.findIdx (fun y => decide (y = w)) + 1) = ws.filter fun x => !dropX w x := by
  obtain ⟨k, hk⟩ : ∃ k, k = ws.findIdx (fun y => decide (y = w)) := ⟨_, rfl⟩
  have hlt : k < ws.length := by rw [hk]; exact List.findIdx_lt_length_of_exists ⟨w, hw, by simp⟩
  have hat : ws[k] = w := by
    have := List.findIdx_getElem (w := (by rw [← hk]; exact hlt : ws.findIdx (fun y => decide (y = w)) < ws.length))
    simp only [← hk] at this
    exact of_decide_eq_true this
  rw [← hk]
  have hd : ws = ws.take k ++ w :: ws.drop (k + 1) := by
    conv => lhs; rw [← List.take_append_drop k ws, List.drop_eq_getElem_cons hlt, hat]
  have hn := hs.nodup
  rw [hd, List.nodup_append] at hn
  obtain ⟨_, h2, h3⟩ := hn
  have e1 : (ws.take k).filter (fun x => !dropX w x) = ws.take k := List.filter_eq_self.2 fun x hx => by
    have : x ≠ w := h3 x hx w (List.mem_cons_self ..)
    unfold dropX
    rw [beq_eq_false_iff_ne.2 (fun e => this ((tl_eq _ _).1 e))]; rfl
  have e2 : (ws.drop (k + 1)).filter (fun x => !dropX w x) = ws.drop (k + 1) := List.filter_eq_self.2 fun x hx => by
    have : x ≠ w := fun e => (List.nodup_cons.1 h2).1 (e ▸ hx)
    unfold dropX
    rw [beq_eq_false_iff_ne.2 (fun e => this ((tl_eq _ _).1 e))]; rfl
  have e3 : (!dropX w w) = false := by unfold dropX; simp
  conv => rhs; rw [hd, List.filter_append, List.filter_cons, e1, e2, e3]
  rfl
theorem both_DropWord (l : List IN) (w : ByteArray) : ∃ r, Ev (fun k => spec_DropWord.f k l w) r ∧ Ev (fun _ => impl_DropWord.f l w) r ∧ r.1.length ≤ 1048576 := by
  unfold spec_DropWord.f impl_DropWord.f
  rcases kept_cases l w with ⟨hf, hk⟩ | ⟨ht, hw, hk⟩ | ⟨ws, hv, rfl, ht, hw, hk⟩
  · refine ⟨([], false), Ev.bind (specT l hf) (Ev.neg (by decide) (Ev.succ ?_)), Ev.const (by rw [hf]; rfl), by decide⟩
    simp only [spec_DropWord.j0]
    exact Ev.pos (by simp) (Ev.pure _)
  · refine ⟨([], false), Ev.bind (specT l ht) (Ev.pos rfl (Ev.bind (specW_f hw) (Ev.succ ?_))), Ev.const (by rw [ht, decide_eq_false hw]; rfl), by decide⟩
    simp only [spec_DropWord.j0]
    exact Ev.pos (by simp) (Ev.pure _)
  · have h3 := hv.len
    have hp := place_ev ws w (by omega)
    cases hh : hasW ws w with
    | false =>
      refine ⟨([], false), Ev.bind (specT _ ht) (Ev.pos rfl (Ev.bind (specW_t hw) (Ev.succ ?_))), Ev.const (by rw [ht, decide_eq_true hw, wordsV_trie hv, hh]; rfl), by decide⟩
      have e : placeW ws w = -1 := by unfold placeW; rw [hh]; rfl
      rw [e] at hp
      simp only [spec_DropWord.j0]
      exact Ev.neg (by simp) (Ev.bind (specWords hv) (Ev.bind hp (Ev.pos (by decide) (Ev.pure _))))
    | true =>
      have hm : w ∈ ws := (hasW_iff _ _).1 hh
      have hfl := List.length_filter_le (fun x => !dropX w x) ws
      have hle : (trieW (ws.filter fun x => !dropX w x)).length ≤ 1048576 := by
        have := prefW_le (ws.filter fun x => !dropX w x) (fun x hx => (hv.ok x (List.mem_filter.1 hx).1).1)
        rw [trieW_length]
        omega
      refine ⟨(trieW (ws.filter fun x => !dropX w x), true), Ev.bind (specT _ ht) (Ev.pos rfl (Ev.bind (specW_t hw) (Ev.succ ?_))), Ev.const (by rw [ht, decide_eq_true hw, wordsV_trie hv, hh]; rfl), hle⟩
      have e : placeW ws w = ((ws.findIdx (fun y => decide (y = w)) : Nat) : Int) := by unfold placeW; rw [hh]; rfl
      rw [e] at hp
      have hk : ws.findIdx (fun y => decide (y = w)) < ws.length := List.findIdx_lt_length_of_exists ⟨w, hm, by simp⟩
      have hd := drop_list hv.ss hm
      generalize ws.findIdx (fun y => decide (y = w)) = n at hp hk hd
      have ho := of_ev (ws.filter fun x => !dropX w x) (fun x hx => hv.ok x (List.mem_filter.1 hx).1) (by omega)
      rw [← hd] at ho
      simp only [spec_DropWord.j0]
      refine Ev.neg (by simp) (Ev.bind (specWords hv) (Ev.bind hp (Ev.neg (by omega) (Ev.pos (by omega) (Ev.pos (by omega) ?_)))))
      rw [wnext n (by omega), Int.toNat_natCast, Int.toNat_natCast]
      refine Ev.bindc (own_eq _ (by rw [List.length_take]; omega)) (Ev.pos (by omega) (Ev.pos (by omega) (Ev.bindc rfl (Ev.pos (by rw [List.length_take, List.length_drop]; omega) (Ev.bind ho ?_)))))
      rw [hd]
      exact Ev.pure _
theorem pure_FnExactDropWord (l0 : List LN) (a1 : ByteArray) (hl_l0 : l0.length ≤ maxLen) (hI_l0 : ∀ x ∈ l0, I64 x.f0 ∧ I64 x.f1) (hw_a1 : a1.size ≤ 140737488351232) : ∃ k, laws_FnExactDropWord.f k l0 a1 = some true := by
  refine Ev.ex ?_
  unfold laws_FnExactDropWord.f
  by_cases hs1 : (a1.size : Int) > 1048576
  · exact Ev.pos hs1 (Ev.pure _)
  refine Ev.neg hs1 ?_
  by_cases h_l0 : l0.length ≤ 1048576
  case neg => exact Ev.bindc (szTrie_eq l0 (by unfold maxLen at hl_l0; omega)) (by rw [if_neg h_l0]; exact Ev.pos (by decide) (Ev.pure _))
  refine Ev.bindc (szTrie_eq l0 (by unfold maxLen at hl_l0; omega)) ?_
  rw [if_pos h_l0]
  refine Ev.neg (by omega) ?_
  have ht_l0 := toTrie_ev l0 (by omega)
  have hc_l0 : (cv l0).length ≤ 1048576 := by rw [cv_length]; omega
  obtain ⟨r, e1, e2, hr⟩ := both_DropWord (cv l0) a1
  have hq := eqTrie_ev r.1 r.1 hr
  refine (Ev.bind ht_l0 (Ev.bind e1 (Ev.bind ht_l0 (Ev.bind e2 (Ev.bind hq (Ev.pos (by simp) (Ev.succ ?_)))))))
  simp only [laws_FnExactDropWord.j0]
  obtain ⟨m, hm⟩ := markTrie_ev (cv l0) hc_l0
  refine Ev.neg (by simp) (Ev.bind ht_l0 (Ev.bind (eqTrie_ev _ _ hc_l0) (Ev.pos (by simp) (Ev.bind hm (Ev.neg (by simp only; omega) (Ev.bind hq (Ev.pos (by simp) (Ev.succ ?_))))))))
  simp only [laws_FnExactDropWord.j1]
  obtain ⟨ms, hs1, hs2⟩ := markH_ev r.1 hr
  refine Ev.neg (by simp) (Ev.bind hs1 (Ev.bind hs2 (Ev.neg (by omega) (Ev.pos rfl (Ev.bind ht_l0 (Ev.bind e2 (Ev.bind hq (Ev.pos (by simp) (Ev.succ ?_)))))))))
  simp only [laws_FnExactDropWord.j2]
  exact Ev.neg (by simp) (Ev.bind hs2 (Ev.neg (by omega) (Ev.pos rfl (Ev.pure _))))
end Go.Proofs.YtefcbnlljpdjnaaDoor.Q
namespace Go.Proofs.YtefcbnlljpdjnaaDoor.Pure
theorem FnExactDropWord (l0 : List Q.LN) (a1 : ByteArray) (hl_l0 : l0.length ≤ maxLen) (hI_l0 : ∀ x ∈ l0, Q.I64 x.f0 ∧ Q.I64 x.f1) (hw_a1 : a1.size ≤ 140737488351232) : ∃ k, Q.laws_FnExactDropWord.f k l0 a1 = some true := Q.pure_FnExactDropWord l0 a1 hl_l0 hI_l0 hw_a1
end Go.Proofs.YtefcbnlljpdjnaaDoor.Pure
namespace Go.Proofs.YtefcbnlljpdjnaaDoor.fnExactDropWord
open Go.ChangeShapes Go.WideShapes Go.ChangeAt Go.RowKit
open Go.ChangeMaps (open_string shut_string)
set_option linter.unusedVariables false
theorem own : ownKnob Tryd.prog.godebug = none := by kernel_rfl
theorem laidOut : laidOutB Tryd.prog = true := by kernel_rfl
set_option maxRecDepth 100000 in
theorem lifted (os : Os) (started : os.Started) (H : Type) (enc : TypeId × Value → H) :
    ReturnsInHanded {} Tryd.checked os 7 .any (fun w args => (Rows.fnExactDropWordSpec.pre enc Tryd.prog Tryd.f7 Rows.fnExactDropWordRow.domain false w args ∧ laidMetH Tryd.prog Rows.fnExactDropWordRow.laid w) ∧ sizedMet enc Tryd.prog Tryd.f7 (OpenSpec.ofChange Rows.fnExactDropWordSpec) false w args) (Rows.fnExactDropWordSpec.post enc Tryd.prog Tryd.f7 false true false false) := by
  refine returnsInHanded_of_change_and (C := Tryd.checked) (X := fun w _ => laidMetH Tryd.prog Rows.fnExactDropWordRow.laid w) (fun _ _ _ hh h => h.of_heap hh) own started (by kernel_rfl) Tryd.func7
    (ChangeSpec.witness_shaped (enc := enc) (C := Tryd.checked) (os := os) (X := fun w _ => laidMetH Tryd.prog Rows.fnExactDropWordRow.laid w) false (World.laidAll Tryd.prog os Rows.fnExactDropWordRow.laid) #[.agg #[.slice none 0 0], .string ByteArray.empty] 8 (World.laidAll_os _ _ _)
      (World.shaped_of_ZipB (by kernel_rfl) (by kernel_rfl)) (by kernel_rfl) (by kernel_rfl) (by kernel_rfl)
      (by rw [MakeChecks.laidMetH_plain _ _ _ (by kernel_rfl)]; exact laidMet_laidAll _ (by kernel_rfl) (by kernel_rfl))) ?_
  intro W base args ds gs before hval0 hW hcnd hsz0 hL _
  have hsz : (DataW.weightsEach Tryd.prog (Tryd.f7.params.toList ++ Rows.fnExactDropWordSpec.plain.varTypes Tryd.prog) (ds ++ gs)).all (· ≤ reachBytes) = true := hsz0
  have hval : ∀ (j : Nat) t v, Tryd.f7.params[j]? = some t → args[j]? = some v → Value.okWide Tryd.prog W .any base t v := hval0
  have hW' := hW
  obtain ⟨p, q, hA0, hV, rfl, hfz, hnd⟩ := hW
  have hA : DataW.TrodAll enc Tryd.prog W 0 (fun _ => true) true Tryd.f7.params.toList args.toList ds p := hA0
  rw [Tryd.params7] at hA hval hsz
  obtain ⟨v0, vs0, d0, ds0, p0, q0, hargs, rfl, rfl, h0, r0⟩ := trodAll_cons hA
  obtain ⟨v1, vs1, d1, ds1, p1, q1, rfl, rfl, rfl, h1, r1⟩ := trodAll_cons r0
  obtain ⟨rfl, rfl, rfl⟩ := trodAll_nil r1
  obtain rfl : args = #[v0, v1] := by cases args; simp_all
  obtain ⟨rfl, rfl⟩ := trodVars_none hV
  have k0 := h0
  have lt0 : ∀ x ∈ p0, x.block < W.heap.size := by obtain ⟨m, hm⟩ := k0; exact DataW.trod_lt m _ _ _ hm
  obtain ⟨A0, c0, l0, rfl, hC0, hc0, hl0, hI0⟩ := Q.open_trie (hval 0 36 v0 rfl rfl) h0
  obtain ⟨a1, rfl, rfl, rfl, y1⟩ := open_string Tryd.underlying9 (hval 1 9 v1 rfl rfl) h1
  have w1 : a1.size ≤ 140737488351232 := by
    have z := sized_string hsz (j := 1) (t := 9) rfl rfl
    rw [Array.length_toList] at z
    exact z
  clear hA0 hval0 hsz0 hsz
  obtain ⟨k, hk⟩ := Pure.FnExactDropWord l0 a1 hl0 hI0 w1
  refine (Q.laws_FnExactDropWord.calls k A0 c0 l0 a1 true W hC0 hc0 hk).mono fun e W' ⟨he, bel0⟩ => ?_
  have bel : Below W.heap.size W W' := bel0
  subst he
  exact ⟨_, rfl, _, _, _, [], _, [], hW', trodAll_mk1 (shut_bool Tryd.underlying4 _), (trodAll_cons_mk (Below.trod laidOut (by kernel_rfl) (of_decide_eq_true (by kernel_rfl)) k0 bel lt0) (trodAll_cons_mk (shut_string Tryd.underlying9 y1) trodAll_mk0)), rfl, bel.frame _, fun h => by cases h⟩
theorem over : Rows.fnExactDropWordRow.holds Tryd.pinned (OpenSpec.ofChange Rows.fnExactDropWordSpec) :=
  OpenClaim.holds_of_wide 7 Tryd.f7 rfl rfl rfl rfl rfl rfl rfl ⟨rfl, rfl, rfl, rfl, rfl⟩ rfl rfl rfl rfl rfl (by kernel_rfl) Tryd.func7 (by kernel_rfl)
    (of_decide_eq_true (by kernel_rfl)) (by unfold Func.isWrapper; first | (rw [if_pos (by decide +kernel)]; kernel_rfl) | (rw [if_neg (by decide +kernel)]; exact ⟨rfl, rfl⟩))
    (fun os started H enc _ => lifted os started H enc)
set_option maxRecDepth 100000 in
theorem proved : Rows.FnExactDropWordCardSaid :=
  Claim7.holds_tied_plain_at .later [] [.data, .pinned] true (true, "bdcb3db80251c561bbc8334c7731308294adf86d7be7bd4d1a885b00a83deeb2") false over (fun _ h => by cases h) (by kernel_rfl) (fun _ h => by cases h) fnExactDropWord_row_tie rfl ⟨rfl, rfl⟩ (by kernel_rfl) rfl
    (fun f fn hf hfn => by
      obtain rfl : f = 7 := Option.some.inj ((show Tryd.prog.funcNamed Tryd.f7.name = some 7 by kernel_rfl).symm.trans hf) |>.symm
      obtain rfl : fn = Tryd.f7 := (Option.some.inj (Tryd.func7.symm.trans hfn)).symm
      exact ⟨by kernel_rfl, fun j t ht => by
        rw [Tryd.params7] at ht
        have hm : t ∈ [36, 9] := by simpa using Array.mem_of_getElem? ht
        have hall : ([36, 9].all fun u => !Tryd.prog.wantsStandIn u) = true := by kernel_rfl
        exact (show Tryd.prog.wantsStandIn t = false by simpa using List.all_eq_true.1 hall t hm)⟩)
    (by kernel_rfl)
end Go.Proofs.YtefcbnlljpdjnaaDoor.fnExactDropWord
namespace Go.Proofs.YtefcbnlljpdjnaaDoor
theorem fnExactDropWord_holds : Rows.FnExactDropWordCardSaid := fnExactDropWord.proved
end Go.Proofs.YtefcbnlljpdjnaaDoor
