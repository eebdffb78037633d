/- Texts of one proof put together: walks of the program's functions, and plain laws on what they compute. -/
import Derived.Test.YtklddfkhbhkhdaaDoorCwWords
import Derived.Test.YtklddfkhbhkhdaaDoorCwLast
import Derived.Test.YtklddfkhbhkhdaaDoorCwTab
import Derived.Test.YtklddfkhbhkhdaaDoorCwApart
import Derived.Test.YtklddfkhbhkhdaaDoorCwFoot
import Derived.Test.YtklddfkhbhkhdaaDoorCwKept
import Derived.Test.YtklddfkhbhkhdaaDoorCwShare
import Derived.Test.YtklddfkhbhkhdaaDoorCwN
import Derived.Test.YtklddfkhbhkhdaaDoorCwRepsOne
import Derived.Test.YtklddfkhbhkhdaaDoorCwMore
import Derived.Test.YtklddfkhbhkhdaaDoorProg
import Derived.Below
import Derived.Deep.Draws
import Derived.Deep.AppendLies
import Derived.Maps.AppendAt
import Derived.OwnWalk
import Derived.Laws.BytesArg
import Derived.Laws.MakeOwn
import Derived.Laws.OwnMore
import Derived.Deep.OwnRows
import Derived.Tactics
import Derived.Lib.ConvBytes
import Derived.Laws.Slices
import Derived.WalkKit
import Derived.KernelRfl
import Derived.RowKit3
import Derived.Deep.LoopGhost
import Derived.Deep.QuietTactic
import Derived.BigQuiet
import Derived.WideLaws
import Derived.Deep.DeepCutAuto
import Derived.Deep.CutBlock
import Derived.Deep.RegionHeld3
import Derived.Laws.Rows
import Derived.Lib.AppendStr
import Derived.ArgAppend
import Derived.Laws.IdiomCopy
import Derived.OrdersHeld
import Derived.Laws.BitsLemmas
import Derived.RowKit
import Derived.Lib.SlicesCompact
import Derived.Lib.OwnBridge
import Derived.Sort.OwnSorted
import Derived.Sort.Grow
import Derived.Lib.ItoaNum
import Derived.Lib.LaidTab
import Derived.Lib.SmallJoins
import Derived.Shelf.Strconv.Itoa3
import Derived.Ground.NamesProg
import Derived.Ground.SlgfProg
import Derived.Lib.AppendIntMem
import Derived.Shelf.Strconv.ErrVarAll
import Derived.Lib.AtoiAllCases
import Derived.Lib.AtoiErrMem
import Derived.Lib.AtoiOr
import Derived.WalkSmall
import Derived.Shelf.Strings.Search3
import Derived.Shelf.Strings.Shaped
import Derived.Laws.IdiomStrings
import Derived.Lib.Strings
import Derived.Lib.ItoaLen
import Derived.Lib.ItoaMem
import Derived.Lib.AtoiTie
import Derived.Lib.IndexLaws
import Derived.Lib.SplitLaws
import Derived.Shelf.Strings.SplitShaped
set_option linter.unusedVariables false
set_option linter.unusedSimpArgs false
namespace Go.Proofs.YtklddfkhbhkhdaaDoor.Q
open Go.RowKit Go.Proofs.YtklddfkhbhkhdaaDoorW.PrintWords Go.Proofs.YtklddfkhbhkhdaaDoorW.PrintLast Go.Proofs.YtklddfkhbhkhdaaDoorW.PrintMore
attribute [local go_sem] max2_int min2_int max_two min_two max_three min_three max_four min_four   -- for this text's walks alone
set_option linter.unusedVariables false
set_option linter.unusedSimpArgs false
def errW : Option Int → Value
  | none => .nilIface
  | some c => .iface 0 (.int .i64 c)
theorem errW_none : errW none = .nilIface := rfl
theorem errW_some (c : Int) : errW (some c) = .iface 0 (.int .i64 c) := rfl
def Sep (u v : Value) : Prop := ∀ k, u.ownBlock = some k → v.ownBlock = some k → False
theorem Sep.symm {u v : Value} (h : Sep u v) : Sep v u := fun k a b => h k b a
theorem isSome_setCell (w : World) (a b : Addr) (v : Value) : ((w.setCell a v).cell? b).isSome = (w.cell? b).isSome := by
  by_cases e : a = b
  · subst e
    simp only [World.setCell, World.cell?, Array.getElem?_modify, ↓reduceIte]
    cases w.heap[a.block]? with
    | none => rfl
    | some o =>
      cases o with
      | cells c t f =>
        simp only [Option.map_some]
        cases a.spot with
        | some z => simp
        | none => by_cases h : a.off < c.size <;> simp [h]
      | _ => rfl
  · rw [World.cell?_setCell_other _ _ _ _ e]
theorem run_field_156 (v : Value) (w : World) : Sem.run Tryd.prog (Instr.field 156 (.agg #[v]) 0) w = .ok v w := by kernel_rfl
theorem run_field_157 (v : Value) (w : World) : Sem.run Tryd.prog (Instr.field 157 (.agg #[v]) 0) w = .ok v w := by kernel_rfl
end Go.Proofs.YtklddfkhbhkhdaaDoor.Q
namespace Go.Proofs.YtklddfkhbhkhdaaDoor.Q
open Go.RowKit Go.Proofs.YtklddfkhbhkhdaaDoorW.PrintWords Go.Proofs.YtklddfkhbhkhdaaDoorW.PrintLast Go.Proofs.YtklddfkhbhkhdaaDoorW.PrintMore
attribute [local go_sem] run_field_156 run_field_157 isSome_setCell max2_int min2_int max_two min_two max_three min_three max_four min_four   -- for this text's walks alone
set_option linter.unusedVariables false
set_option linter.unusedSimpArgs false
def IsS48 (w0 W : World) (g : Nat) (f0 : List Int) (f1 : Int) (f2 : Int) : Prop := ∃ A0 c0, W.heap[g]? = some (.cells #[.slice A0 f0.length c0, .int .i64 f1, .int .u64 f2] 48 (0, 0)) ∧ w0.heap.size ≤ g ∧ Kd.C (Kd.int .u8) w0 A0 f0.length f0
theorem IsS48.grown {w0 W : World} {g : Nat} {f0 : List Int} {f1 : Int} {f2 : Int} {W1 : World} {row : Option Nat} (h : IsS48 w0 W g f0 f1 f2) (hw : W.grownBy W1 row) (hne : some g ≠ row) : IsS48 w0 W1 g f0 f1 f2 := by
  obtain ⟨A0, c0, hb, hg, hr0⟩ := h
  exact ⟨A0, c0, blk_grown hb hw hne, hg, hr0⟩
theorem IsS48.below {w0 W : World} {g : Nat} {f0 : List Int} {f1 : Int} {f2 : Int} {W1 : World} (h : IsS48 w0 W g f0 f1 f2) (hw : Below W.heap.size W W1) : IsS48 w0 W1 g f0 f1 f2 := h.grown (grown_of_below hw none) (by simp)
theorem IsS48.alloc {w0 W : World} {g : Nat} {f0 : List Int} {f1 : Int} {f2 : Int} (h : IsS48 w0 W g f0 f1 f2) (o : Obj) : IsS48 w0 (W.alloc o) g f0 f1 f2 := h.below (below_alloc (Below.refl _ _) o)
theorem IsS48.drewN {w0 W : World} {g : Nat} {f0 : List Int} {f1 : Int} {f2 : Int} (h : IsS48 w0 W g f0 f1 f2) (m : Nat) : IsS48 w0 (W.drewN m) g f0 f1 f2 := h
theorem IsS48.drew {w0 W : World} {g : Nat} {f0 : List Int} {f1 : Int} {f2 : Int} (h : IsS48 w0 W g f0 f1 f2) : IsS48 w0 W.drew g f0 f1 f2 := h
theorem IsS48.apart {w0 W : World} {g : Nat} {f0 : List Int} {f1 : Int} {f2 : Int} {α : Type} {d : Kd α} {e : Nat} {base : Nat} {ok : Nat → Prop} {v : Value} {xs : List α} (h : IsS48 w0 W g f0 f1 f2) (ho : d.R e W base ok v xs) (ht : ∀ q, q ∈ e :: d.E → q ≠ 48) : d.R e W base (fun k => ok k ∧ k ≠ g) v xs := by
  obtain ⟨A0, c0, hb, hg, hr0⟩ := h
  exact Kd.R_types ho hb ht
theorem IsS48.own_ne {w0 W : World} {g : Nat} {f0 : List Int} {f1 : Int} {f2 : Int} {α : Type} {d : Kd α} {e : Nat} {base : Nat} {ok : Nat → Prop} {v : Value} {xs : List α} (h : IsS48 w0 W g f0 f1 f2) (ho : d.R e W base ok v xs) (ht : e ≠ 48) : some g ≠ v.ownBlock := by
  obtain ⟨A0, c0, hb, hg, hr0⟩ := h
  exact Kd.R_ne ho hb ht
theorem IsS48.lt {w0 W : World} {g : Nat} {f0 : List Int} {f1 : Int} {f2 : Int} (h : IsS48 w0 W g f0 f1 f2) : g < W.heap.size := by
  obtain ⟨A0, c0, hb, hg, hr0⟩ := h
  exact blk_lt hb
theorem IsS48.ge {w0 W : World} {g : Nat} {f0 : List Int} {f1 : Int} {f2 : Int} (h : IsS48 w0 W g f0 f1 f2) : w0.heap.size ≤ g := by
  obtain ⟨A0, c0, hb, hg, hr0⟩ := h
  exact hg
theorem cellS48_0 {W : World} {g : Nat} {A0 : Option Addr} {c0 : Nat} {f0 : List Int} {f1 : Int} {f2 : Int} (h : W.heap[g]? = some (.cells #[.slice A0 f0.length c0, .int .i64 f1, .int .u64 f2] 48 (0, 0))) : W.cell? ⟨g, 0, none⟩ = some (.slice A0 f0.length c0) := (blk_cell h 0).trans rfl
theorem cellS48_1 {W : World} {g : Nat} {A0 : Option Addr} {c0 : Nat} {f0 : List Int} {f1 : Int} {f2 : Int} (h : W.heap[g]? = some (.cells #[.slice A0 f0.length c0, .int .i64 f1, .int .u64 f2] 48 (0, 0))) : W.cell? ⟨g, 1, none⟩ = some (.int .i64 f1) := (blk_cell h 1).trans rfl
theorem IsS48.set_1 {w0 W : World} {g : Nat} {f0 : List Int} {f1 : Int} {f2 : Int} (h : IsS48 w0 W g f0 f1 f2) (x : Int) : IsS48 w0 (W.setCell ⟨g, 1, none⟩ (.int .i64 x)) g f0 x f2 := by
  obtain ⟨A0, c0, hb, hg, hr0⟩ := h
  exact ⟨A0, c0, by simpa using blk_set hb 1 (.int .i64 x), hg, hr0⟩
theorem cellS48_2 {W : World} {g : Nat} {A0 : Option Addr} {c0 : Nat} {f0 : List Int} {f1 : Int} {f2 : Int} (h : W.heap[g]? = some (.cells #[.slice A0 f0.length c0, .int .i64 f1, .int .u64 f2] 48 (0, 0))) : W.cell? ⟨g, 2, none⟩ = some (.int .u64 f2) := (blk_cell h 2).trans rfl
theorem IsS48.set_2 {w0 W : World} {g : Nat} {f0 : List Int} {f1 : Int} {f2 : Int} (h : IsS48 w0 W g f0 f1 f2) (x : Int) : IsS48 w0 (W.setCell ⟨g, 2, none⟩ (.int .u64 x)) g f0 f1 x := by
  obtain ⟨A0, c0, hb, hg, hr0⟩ := h
  exact ⟨A0, c0, by simpa using blk_set hb 2 (.int .u64 x), hg, hr0⟩
def spec_l1Cur_next.f (s0_0 : List Int) (s0_1 : Int) (s0_2 : Int) : Option (Int × Int × Int) := if s0_1 < (s0_0.length : Int) then (if 0 ≤ s0_1 then (if (wrap64 (s0_1 + 1)) ≤ (s0_0.length : Int) then (some (wrap64 (rd s0_0 s0_1), wrap64 (s0_1 + 1), IntKind.u64.wrap ((IntKind.u64.wrap ((IntKind.u64.wrap (s0_2 * 6364136223846793005)) + (IntKind.u64.wrap (wrap64 (rd s0_0 s0_1))))) + 462197))) else (some (wrap64 (Go.bits .and .u64 ((IntKind.u64.wrap ((IntKind.u64.wrap ((IntKind.u64.wrap (s0_2 * 6364136223846793005)) + (IntKind.u64.wrap (wrap64 (rd s0_0 s0_1))))) + 462197)) / 1099511627776) 255), wrap64 (s0_1 + 1), IntKind.u64.wrap ((IntKind.u64.wrap ((IntKind.u64.wrap (s0_2 * 6364136223846793005)) + (IntKind.u64.wrap (wrap64 (rd s0_0 s0_1))))) + 462197)))) else (none)) else (if (wrap64 (s0_1 + 1)) ≤ (s0_0.length : Int) then (some (0, wrap64 (s0_1 + 1), IntKind.u64.wrap ((IntKind.u64.wrap ((IntKind.u64.wrap (s0_2 * 6364136223846793005)) + 0)) + 462197))) else (some (wrap64 (Go.bits .and .u64 ((IntKind.u64.wrap ((IntKind.u64.wrap ((IntKind.u64.wrap (s0_2 * 6364136223846793005)) + 0)) + 462197)) / 1099511627776) 255), wrap64 (s0_1 + 1), IntKind.u64.wrap ((IntKind.u64.wrap ((IntKind.u64.wrap (s0_2 * 6364136223846793005)) + 0)) + 462197))))
set_option maxHeartbeats 8000000 in
set_option maxRecDepth 100000 in
theorem spec_l1Cur_next.calls (g : Nat) (s0_0 : List Int) (s0_1 : Int) (s0_2 : Int) (r1 : Int) (r2 : Int) (r3 : Int) (w0 w : World) (hI : IsS48 w0 w g s0_0 s0_1 s0_2) (hB : Below w0.heap.size w0 w) (h : spec_l1Cur_next.f s0_0 s0_1 s0_2 = some (r1, r2, r3)) :
    Calls Tryd.prog 56 #[.pointer (some ⟨g, 0, none⟩)] w fun e w' => e = .returned (.int .i64 r1) ∧ IsS48 w0 w' g s0_0 r2 r3 ∧ Below w0.heap.size w0 w' ∧ KeepBut w w' g none := by
  have HI0 := Aside0.mk hI
  have HK := Aside0.mk (KeepBut.refl w g none)
  have HL := Aside0.mk hB.size
  clear hI
  have HW0 := Aside0.mk hB.size
  have HB := Aside0.mk hB
  clear hB
  have H : (if s0_1 < (s0_0.length : Int) then (if 0 ≤ s0_1 then (if (wrap64 (s0_1 + 1)) ≤ (s0_0.length : Int) then (some (wrap64 (rd s0_0 s0_1), wrap64 (s0_1 + 1), IntKind.u64.wrap ((IntKind.u64.wrap ((IntKind.u64.wrap (s0_2 * 6364136223846793005)) + (IntKind.u64.wrap (wrap64 (rd s0_0 s0_1))))) + 462197))) else (some (wrap64 (Go.bits .and .u64 ((IntKind.u64.wrap ((IntKind.u64.wrap ((IntKind.u64.wrap (s0_2 * 6364136223846793005)) + (IntKind.u64.wrap (wrap64 (rd s0_0 s0_1))))) + 462197)) / 1099511627776) 255), wrap64 (s0_1 + 1), IntKind.u64.wrap ((IntKind.u64.wrap ((IntKind.u64.wrap (s0_2 * 6364136223846793005)) + (IntKind.u64.wrap (wrap64 (rd s0_0 s0_1))))) + 462197)))) else (none)) else (if (wrap64 (s0_1 + 1)) ≤ (s0_0.length : Int) then (some (0, wrap64 (s0_1 + 1), IntKind.u64.wrap ((IntKind.u64.wrap ((IntKind.u64.wrap (s0_2 * 6364136223846793005)) + 0)) + 462197))) else (some (wrap64 (Go.bits .and .u64 ((IntKind.u64.wrap ((IntKind.u64.wrap ((IntKind.u64.wrap (s0_2 * 6364136223846793005)) + 0)) + 462197)) / 1099511627776) 255), wrap64 (s0_1 + 1), IntKind.u64.wrap ((IntKind.u64.wrap ((IntKind.u64.wrap (s0_2 * 6364136223846793005)) + 0)) + 462197))))) = some (r1, r2, r3) := h
  clear h
  by_cases c2 : s0_1 < (s0_0.length : Int)
  · rw [if_pos c2] at H
    have c2b0 : decide (s0_1 < (s0_0.length : Int)) = true := decide_eq_true c2
    clear c2
    by_cases c3 : 0 ≤ s0_1
    · rw [if_pos c3] at H
      have c3b0 : decide (0 ≤ s0_1) = true := decide_eq_true c3
      clear c3
      by_cases c4 : (wrap64 (s0_1 + 1)) ≤ (s0_0.length : Int)
      · rw [if_pos c4] at H
        have c4b0 : decide ((wrap64 (s0_1 + 1)) ≤ (s0_0.length : Int)) = true := decide_eq_true c4
        clear c4
        simp only [Option.some.injEq, Prod.mk.injEq] at H
        obtain ⟨rfl, rfl, rfl⟩ := H
        obtain ⟨ASz5_0, cSz5_0, HGz5, hgz5, HSz5_0⟩ := HI0.out
        have hcz5_0 := cellS48_0 HGz5
        have hcz5_1 := cellS48_1 HGz5
        have hcz5_2 := cellS48_2 HGz5
        have hfz5_1 := blk_frozen HGz5 1
        have hfz5_2 := blk_frozen HGz5 2
        clear HGz5 hgz5
        have p101 : 0 ≤ (s0_1 : Int) := of_decide_eq_true (by first | (with_reducible assumption) | assumption)
        have q101 : s0_1 < (s0_0.length : Int) := of_decide_eq_true (by first | (with_reducible assumption) | assumption)
        obtain ⟨ad101, e101, hx101_0⟩ := Kd.at_int HSz5_0 s0_1 p101 q101
        cases e101
        replace hx101_0 := pw_cell_below HB.out hx101_0
        replace p101 := eq_true p101
        replace q101 := eq_true q101
        go_enter Tryd.func56, Tryd.ntmps56
        go_wp2
        repeat (go_quiet (fail); try go_wp2)
        go_ret
        (try simp only [Int.add_zero])
        exact ⟨by first | rfl | (simp [errW_none, errW_some] <;> rfl) | (simp [*, errW_none, errW_some] <;> rfl), by repeat (first | (with_reducible first | exact HI0.out | apply IsS48.alloc | apply IsS48.drewN | apply IsS48.drew | apply IsS48.set_1 | apply IsS48.set_2) | exact HI0.out), by repeat (first | (with_reducible first | exact HB.out | apply below_alloc | apply pw_below_drewN | apply below_drew1 | refine below_set ?_ (IsS48.ge HI0.out)) | exact HB.out), by repeat (first | (with_reducible first | exact HK.out | apply KeepBut.set_ | apply keep_drewN | apply keep_drew | apply keep_alloc) | exact HK.out)⟩
      · rw [if_neg c4] at H
        have c4b0 : decide ((wrap64 (s0_1 + 1)) ≤ (s0_0.length : Int)) = false := decide_eq_false c4
        clear c4
        simp only [Option.some.injEq, Prod.mk.injEq] at H
        obtain ⟨rfl, rfl, rfl⟩ := H
        obtain ⟨ASz6_0, cSz6_0, HGz6, hgz6, HSz6_0⟩ := HI0.out
        have hcz6_0 := cellS48_0 HGz6
        have hcz6_1 := cellS48_1 HGz6
        have hcz6_2 := cellS48_2 HGz6
        have hfz6_1 := blk_frozen HGz6 1
        have hfz6_2 := blk_frozen HGz6 2
        clear HGz6 hgz6
        have p101 : 0 ≤ (s0_1 : Int) := of_decide_eq_true (by first | (with_reducible assumption) | assumption)
        have q101 : s0_1 < (s0_0.length : Int) := of_decide_eq_true (by first | (with_reducible assumption) | assumption)
        obtain ⟨ad101, e101, hx101_0⟩ := Kd.at_int HSz6_0 s0_1 p101 q101
        cases e101
        replace hx101_0 := pw_cell_below HB.out hx101_0
        replace p101 := eq_true p101
        replace q101 := eq_true q101
        go_enter Tryd.func56, Tryd.ntmps56
        go_wp2
        repeat (go_quiet (fail); try go_wp2)
        go_ret
        (try simp only [Int.add_zero])
        exact ⟨by first | rfl | (simp [errW_none, errW_some] <;> rfl) | (simp [*, errW_none, errW_some] <;> rfl), by repeat (first | (with_reducible first | exact HI0.out | apply IsS48.alloc | apply IsS48.drewN | apply IsS48.drew | apply IsS48.set_1 | apply IsS48.set_2) | exact HI0.out), by repeat (first | (with_reducible first | exact HB.out | apply below_alloc | apply pw_below_drewN | apply below_drew1 | refine below_set ?_ (IsS48.ge HI0.out)) | exact HB.out), by repeat (first | (with_reducible first | exact HK.out | apply KeepBut.set_ | apply keep_drewN | apply keep_drew | apply keep_alloc) | exact HK.out)⟩
    · rw [if_neg c3] at H
      exact absurd H (by simp)
  · rw [if_neg c2] at H
    have c2b0 : decide (s0_1 < (s0_0.length : Int)) = false := decide_eq_false c2
    clear c2
    by_cases c7 : (wrap64 (s0_1 + 1)) ≤ (s0_0.length : Int)
    · rw [if_pos c7] at H
      have c7b0 : decide ((wrap64 (s0_1 + 1)) ≤ (s0_0.length : Int)) = true := decide_eq_true c7
      clear c7
      simp only [Option.some.injEq, Prod.mk.injEq] at H
      obtain ⟨rfl, rfl, rfl⟩ := H
      obtain ⟨ASz8_0, cSz8_0, HGz8, hgz8, HSz8_0⟩ := HI0.out
      have hcz8_0 := cellS48_0 HGz8
      have hcz8_1 := cellS48_1 HGz8
      have hcz8_2 := cellS48_2 HGz8
      have hfz8_1 := blk_frozen HGz8 1
      have hfz8_2 := blk_frozen HGz8 2
      clear HGz8 hgz8
      go_enter Tryd.func56, Tryd.ntmps56
      go_wp2
      repeat (go_quiet (fail); try go_wp2)
      go_ret
      (try simp only [Int.add_zero])
      exact ⟨by first | rfl | (simp [errW_none, errW_some] <;> rfl) | (simp [*, errW_none, errW_some] <;> rfl), by repeat (first | (with_reducible first | exact HI0.out | apply IsS48.alloc | apply IsS48.drewN | apply IsS48.drew | apply IsS48.set_1 | apply IsS48.set_2) | exact HI0.out), by repeat (first | (with_reducible first | exact HB.out | apply below_alloc | apply pw_below_drewN | apply below_drew1 | refine below_set ?_ (IsS48.ge HI0.out)) | exact HB.out), by repeat (first | (with_reducible first | exact HK.out | apply KeepBut.set_ | apply keep_drewN | apply keep_drew | apply keep_alloc) | exact HK.out)⟩
    · rw [if_neg c7] at H
      have c7b0 : decide ((wrap64 (s0_1 + 1)) ≤ (s0_0.length : Int)) = false := decide_eq_false c7
      clear c7
      simp only [Option.some.injEq, Prod.mk.injEq] at H
      obtain ⟨rfl, rfl, rfl⟩ := H
      obtain ⟨ASz9_0, cSz9_0, HGz9, hgz9, HSz9_0⟩ := HI0.out
      have hcz9_0 := cellS48_0 HGz9
      have hcz9_1 := cellS48_1 HGz9
      have hcz9_2 := cellS48_2 HGz9
      have hfz9_1 := blk_frozen HGz9 1
      have hfz9_2 := blk_frozen HGz9 2
      clear HGz9 hgz9
      go_enter Tryd.func56, Tryd.ntmps56
      go_wp2
      repeat (go_quiet (fail); try go_wp2)
      go_ret
      (try simp only [Int.add_zero])
      exact ⟨by first | rfl | (simp [errW_none, errW_some] <;> rfl) | (simp [*, errW_none, errW_some] <;> rfl), by repeat (first | (with_reducible first | exact HI0.out | apply IsS48.alloc | apply IsS48.drewN | apply IsS48.drew | apply IsS48.set_1 | apply IsS48.set_2) | exact HI0.out), by repeat (first | (with_reducible first | exact HB.out | apply below_alloc | apply pw_below_drewN | apply below_drew1 | refine below_set ?_ (IsS48.ge HI0.out)) | exact HB.out), by repeat (first | (with_reducible first | exact HK.out | apply KeepBut.set_ | apply keep_drewN | apply keep_drew | apply keep_alloc) | exact HK.out)⟩
def spec_l1Cur_pick.f (s0_0 : List Int) (s0_1 : Int) (s0_2 : Int) (a1 : Int) : Option (Int × Int × Int) := if a1 ≤ 1 then (some (0, s0_1, s0_2)) else ((spec_l1Cur_next.f s0_0 s0_1 s0_2).bind fun bt102 => (if a1 > 200 then ((spec_l1Cur_next.f s0_0 bt102.2.1 bt102.2.2).bind fun bt105 => (if a1 = 0 then (none) else (some (Int.tmod (wrap64 ((wrap64 (bt102.1 * 256)) + bt105.1)) a1, bt105.2.1, bt105.2.2)))) else (if a1 = 0 then (none) else (some (Int.tmod bt102.1 a1, bt102.2.1, bt102.2.2)))))
set_option maxHeartbeats 8000000 in
set_option maxRecDepth 100000 in
theorem spec_l1Cur_pick.calls (g : Nat) (s0_0 : List Int) (s0_1 : Int) (s0_2 : Int) (a1 : Int) (r1 : Int) (r2 : Int) (r3 : Int) (w0 w : World) (hI : IsS48 w0 w g s0_0 s0_1 s0_2) (hB : Below w0.heap.size w0 w) (h : spec_l1Cur_pick.f s0_0 s0_1 s0_2 a1 = some (r1, r2, r3)) :
    Calls Tryd.prog 37 #[.pointer (some ⟨g, 0, none⟩), .int .i64 a1] w fun e w' => e = .returned (.int .i64 r1) ∧ IsS48 w0 w' g s0_0 r2 r3 ∧ Below w0.heap.size w0 w' ∧ KeepBut w w' g none := by
  have HI0 := Aside0.mk hI
  have HK := Aside0.mk (KeepBut.refl w g none)
  have HL := Aside0.mk hB.size
  clear hI
  have HW0 := Aside0.mk hB.size
  have HB := Aside0.mk hB
  clear hB
  have H : (if a1 ≤ 1 then (some (0, s0_1, s0_2)) else ((spec_l1Cur_next.f s0_0 s0_1 s0_2).bind fun bt102 => (if a1 > 200 then ((spec_l1Cur_next.f s0_0 bt102.2.1 bt102.2.2).bind fun bt105 => (if a1 = 0 then (none) else (some (Int.tmod (wrap64 ((wrap64 (bt102.1 * 256)) + bt105.1)) a1, bt105.2.1, bt105.2.2)))) else (if a1 = 0 then (none) else (some (Int.tmod bt102.1 a1, bt102.2.1, bt102.2.2)))))) = some (r1, r2, r3) := h
  clear h
  by_cases c3 : a1 ≤ 1
  · rw [if_pos c3] at H
    have c3b0 : decide (a1 ≤ 1) = true := decide_eq_true c3
    clear c3
    simp only [Option.some.injEq, Prod.mk.injEq] at H
    obtain ⟨rfl, rfl, rfl⟩ := H
    go_enter Tryd.func37, Tryd.ntmps37
    go_wp2
    go_ret
    (try simp only [Int.add_zero])
    exact ⟨by first | rfl | (simp [errW_none, errW_some] <;> rfl) | (simp [*, errW_none, errW_some] <;> rfl), by repeat (first | (with_reducible first | exact HI0.out | apply IsS48.alloc | apply IsS48.drewN | apply IsS48.drew | apply IsS48.set_1 | apply IsS48.set_2) | exact HI0.out), by repeat (first | (with_reducible first | exact HB.out | apply below_alloc | apply pw_below_drewN | apply below_drew1 | refine below_set ?_ (IsS48.ge HI0.out)) | exact HB.out), by repeat (first | (with_reducible first | exact HK.out | apply KeepBut.set_ | apply keep_drewN | apply keep_drew | apply keep_alloc) | exact HK.out)⟩
  · rw [if_neg c3] at H
    have c3b0 : decide (a1 ≤ 1) = false := decide_eq_false c3
    clear c3
    replace H := Option.bind_eq_some_iff.mp H
    obtain ⟨⟨t102, t103, t104⟩, A40, H⟩ := H
    replace H : (if a1 > 200 then ((spec_l1Cur_next.f s0_0 t103 t104).bind fun bt105 => (if a1 = 0 then (none) else (some (Int.tmod (wrap64 ((wrap64 (t102 * 256)) + bt105.1)) a1, bt105.2.1, bt105.2.2)))) else (if a1 = 0 then (none) else (some (Int.tmod t102 a1, t103, t104)))) = some (r1, r2, r3) := H
    have A4 := Aside0.mk A40
    clear A40
    by_cases c5 : a1 > 200
    · rw [if_pos c5] at H
      have c5b0 : decide (200 < a1) = true := decide_eq_true c5
      clear c5
      replace H := Option.bind_eq_some_iff.mp H
      obtain ⟨⟨t105, t106, t107⟩, A60, H⟩ := H
      replace H : (if a1 = 0 then (none) else (some (Int.tmod (wrap64 ((wrap64 (t102 * 256)) + t105)) a1, t106, t107))) = some (r1, r2, r3) := H
      have A6 := Aside0.mk A60
      clear A60
      by_cases c7 : a1 = 0
      · rw [if_pos c7] at H
        exact absurd H (by simp)
      · rw [if_neg c7] at H
        have c7b0 : (a1 == 0) = false := beq_eq_false_iff_ne.mpr c7
        have c7b1 : (a1 != 0) = true := bne_iff_ne.mpr c7
        simp only [Option.some.injEq, Prod.mk.injEq] at H
        obtain ⟨rfl, rfl, rfl⟩ := H
        go_enter Tryd.func37, Tryd.ntmps37
        go_wp2_with (first | ((with_reducible refine gate_callee (f := 56) rfl ?_); refine goesL_ (some 9) rfl rfl Tryd.func56 (by kernel_rfl) rfl #[.pointer (some ⟨g, 0, none⟩)] rfl (by (try simp only [List.map_toArray, List.map_cons, List.map_nil]); first | done | rfl | (simp only [List.length_drop, List.length_take]; rfl)) ?_; (with_reducible refine (spec_l1Cur_next.calls g s0_0 s0_1 s0_2 t102 t103 t104 w0 _ ?side1 ?side2 A4.out).mono ?_); (case side1 => repeat (first | (with_reducible first | exact HI0.out | apply IsS48.alloc | apply IsS48.drewN | apply IsS48.drew | apply IsS48.set_1 | apply IsS48.set_2) | exact HI0.out)); (case side2 => repeat (first | (with_reducible first | exact HB.out | apply below_alloc | apply pw_below_drewN | apply below_drew1 | refine below_set ?_ (IsS48.ge HI0.out)) | exact HB.out)); rintro e w8 ⟨rfl, hi, hb, hk⟩; refine ⟨_, rfl, ?_⟩; have n0_ := Aside0.mk (KeepBut.trans (by repeat (first | (with_reducible first | exact HK.out | apply KeepBut.set_ | apply keep_drewN | apply keep_drew | apply keep_alloc) | exact HK.out)) hk (.inl rfl)); have n1_ := Aside0.mk (hb); have n2_ := Aside0.mk (hi); clear HK; clear HB; clear HI0; have HK := n0_; have HB := n1_; have HI0 := n2_; clear n0_ n1_ n2_; (try clear hb); (try clear hb2); (try clear hk); (try clear hi)) | ((with_reducible refine gate_callee (f := 56) rfl ?_); refine goesL_ (some 15) rfl rfl Tryd.func56 (by kernel_rfl) rfl #[.pointer (some ⟨g, 0, none⟩)] rfl (by (try simp only [List.map_toArray, List.map_cons, List.map_nil]); first | done | rfl | (simp only [List.length_drop, List.length_take]; rfl)) ?_; (with_reducible refine (spec_l1Cur_next.calls g s0_0 t103 t104 t105 t106 t107 w0 _ ?side1 ?side2 A6.out).mono ?_); (case side1 => repeat (first | (with_reducible first | exact HI0.out | apply IsS48.alloc | apply IsS48.drewN | apply IsS48.drew | apply IsS48.set_1 | apply IsS48.set_2) | exact HI0.out)); (case side2 => repeat (first | (with_reducible first | exact HB.out | apply below_alloc | apply pw_below_drewN | apply below_drew1 | refine below_set ?_ (IsS48.ge HI0.out)) | exact HB.out)); rintro e w9 ⟨rfl, hi, hb, hk⟩; refine ⟨_, rfl, ?_⟩; have n0_ := Aside0.mk (KeepBut.trans (by repeat (first | (with_reducible first | exact HK.out | apply KeepBut.set_ | apply keep_drewN | apply keep_drew | apply keep_alloc) | exact HK.out)) hk (.inl rfl)); have n1_ := Aside0.mk (hb); have n2_ := Aside0.mk (hi); clear HK; clear HB; clear HI0; have HK := n0_; have HB := n1_; have HI0 := n2_; clear n0_ n1_ n2_; (try clear hb); (try clear hb2); (try clear hk); (try clear hi)))
        go_ret
        (try simp only [Int.add_zero])
        exact ⟨by first | rfl | (simp [errW_none, errW_some] <;> rfl) | (simp [*, errW_none, errW_some] <;> rfl), by repeat (first | (with_reducible first | exact HI0.out | apply IsS48.alloc | apply IsS48.drewN | apply IsS48.drew | apply IsS48.set_1 | apply IsS48.set_2) | exact HI0.out), by repeat (first | (with_reducible first | exact HB.out | apply below_alloc | apply pw_below_drewN | apply below_drew1 | refine below_set ?_ (IsS48.ge HI0.out)) | exact HB.out), by repeat (first | (with_reducible first | exact HK.out | apply KeepBut.set_ | apply keep_drewN | apply keep_drew | apply keep_alloc) | exact HK.out)⟩
    · rw [if_neg c5] at H
      have c5b0 : decide (200 < a1) = false := decide_eq_false c5
      clear c5
      by_cases c10 : a1 = 0
      · rw [if_pos c10] at H
        exact absurd H (by simp)
      · rw [if_neg c10] at H
        have c10b0 : (a1 == 0) = false := beq_eq_false_iff_ne.mpr c10
        have c10b1 : (a1 != 0) = true := bne_iff_ne.mpr c10
        simp only [Option.some.injEq, Prod.mk.injEq] at H
        obtain ⟨rfl, rfl, rfl⟩ := H
        go_enter Tryd.func37, Tryd.ntmps37
        go_wp2_with (first | ((with_reducible refine gate_callee (f := 56) rfl ?_); refine goesL_ (some 9) rfl rfl Tryd.func56 (by kernel_rfl) rfl #[.pointer (some ⟨g, 0, none⟩)] rfl (by (try simp only [List.map_toArray, List.map_cons, List.map_nil]); first | done | rfl | (simp only [List.length_drop, List.length_take]; rfl)) ?_; (with_reducible refine (spec_l1Cur_next.calls g s0_0 s0_1 s0_2 t102 t103 t104 w0 _ ?side1 ?side2 A4.out).mono ?_); (case side1 => repeat (first | (with_reducible first | exact HI0.out | apply IsS48.alloc | apply IsS48.drewN | apply IsS48.drew | apply IsS48.set_1 | apply IsS48.set_2) | exact HI0.out)); (case side2 => repeat (first | (with_reducible first | exact HB.out | apply below_alloc | apply pw_below_drewN | apply below_drew1 | refine below_set ?_ (IsS48.ge HI0.out)) | exact HB.out)); rintro e w11 ⟨rfl, hi, hb, hk⟩; refine ⟨_, rfl, ?_⟩; have n0_ := Aside0.mk (KeepBut.trans (by repeat (first | (with_reducible first | exact HK.out | apply KeepBut.set_ | apply keep_drewN | apply keep_drew | apply keep_alloc) | exact HK.out)) hk (.inl rfl)); have n1_ := Aside0.mk (hb); have n2_ := Aside0.mk (hi); clear HK; clear HB; clear HI0; have HK := n0_; have HB := n1_; have HI0 := n2_; clear n0_ n1_ n2_; (try clear hb); (try clear hb2); (try clear hk); (try clear hi)))
        go_ret
        (try simp only [Int.add_zero])
        exact ⟨by first | rfl | (simp [errW_none, errW_some] <;> rfl) | (simp [*, errW_none, errW_some] <;> rfl), by repeat (first | (with_reducible first | exact HI0.out | apply IsS48.alloc | apply IsS48.drewN | apply IsS48.drew | apply IsS48.set_1 | apply IsS48.set_2) | exact HI0.out), by repeat (first | (with_reducible first | exact HB.out | apply below_alloc | apply pw_below_drewN | apply below_drew1 | refine below_set ?_ (IsS48.ge HI0.out)) | exact HB.out), by repeat (first | (with_reducible first | exact HK.out | apply KeepBut.set_ | apply keep_drewN | apply keep_drew | apply keep_alloc) | exact HK.out)⟩
def spec_l1Cur_of.f (s0_0 : List Int) (s0_1 : Int) (s0_2 : Int) (l1 : List ByteArray) : Option (ByteArray × Int × Int) := (spec_l1Cur_pick.f s0_0 s0_1 s0_2 (l1.length : Int)).bind fun bt108 => (if 0 ≤ bt108.1 then (if bt108.1 < (l1.length : Int) then (some (rdOf ByteArray.empty l1 bt108.1, bt108.2.1, bt108.2.2)) else (none)) else (none))
set_option maxHeartbeats 8000000 in
set_option maxRecDepth 100000 in
theorem spec_l1Cur_of.calls (g : Nat) (s0_0 : List Int) (s0_1 : Int) (s0_2 : Int) (A1 : Option Addr) (c1 : Nat) (l1 : List ByteArray) (r1 : ByteArray) (r2 : Int) (r3 : Int) (w0 w : World) (hI : IsS48 w0 w g s0_0 s0_1 s0_2) (hB : Below w0.heap.size w0 w) (hr1 : Kd.C Kd.string w A1 l1.length l1) (hc1 : l1.length ≤ c1) (hf1 : ∀ ad, A1 = some ad → 0 < l1.length → ad.block ≠ g) (h : spec_l1Cur_of.f s0_0 s0_1 s0_2 l1 = some (r1, r2, r3)) :
    Calls Tryd.prog 35 #[.pointer (some ⟨g, 0, none⟩), .slice A1 l1.length c1] w fun e w' => e = .returned (.string r1) ∧ IsS48 w0 w' g s0_0 r2 r3 ∧ Below w0.heap.size w0 w' ∧ KeepBut w w' g none := by
  have HR1 := Aside0.mk hr1
  have HC1 := Aside0.mk hc1
  clear hr1 hc1
  have HI0 := Aside0.mk hI
  have HK := Aside0.mk (KeepBut.refl w g none)
  have HL := Aside0.mk hB.size
  clear hI
  have HW0 := Aside0.mk hB.size
  have HB := Aside0.mk hB
  clear hB
  have H : ((spec_l1Cur_pick.f s0_0 s0_1 s0_2 (l1.length : Int)).bind fun bt108 => (if 0 ≤ bt108.1 then (if bt108.1 < (l1.length : Int) then (some (rdOf ByteArray.empty l1 bt108.1, bt108.2.1, bt108.2.2)) else (none)) else (none))) = some (r1, r2, r3) := h
  clear h
  replace H := Option.bind_eq_some_iff.mp H
  obtain ⟨⟨t108, t109, t110⟩, A30, H⟩ := H
  replace H : (if 0 ≤ t108 then (if t108 < (l1.length : Int) then (some (rdOf ByteArray.empty l1 t108, t109, t110)) else (none)) else (none)) = some (r1, r2, r3) := H
  have A3 := Aside0.mk A30
  clear A30
  by_cases c4 : 0 ≤ t108
  · rw [if_pos c4] at H
    have c4b0 : decide (0 ≤ t108) = true := decide_eq_true c4
    clear c4
    by_cases c5 : t108 < (l1.length : Int)
    · rw [if_pos c5] at H
      have c5b0 : decide (t108 < (l1.length : Int)) = true := decide_eq_true c5
      clear c5
      simp only [Option.some.injEq, Prod.mk.injEq] at H
      obtain ⟨rfl, rfl, rfl⟩ := H
      go_enter Tryd.func35, Tryd.ntmps35
      go_wp2_with (first | ((with_reducible refine gate_callee (f := 37) rfl ?_); refine goesL_ (some 9) rfl rfl Tryd.func37 (by kernel_rfl) rfl #[.pointer (some ⟨g, 0, none⟩), .int .i64 (l1.length : Int)] rfl (by (try simp only [List.map_toArray, List.map_cons, List.map_nil]); first | done | rfl | (simp only [List.length_drop, List.length_take]; rfl)) ?_; (with_reducible refine (spec_l1Cur_pick.calls g s0_0 s0_1 s0_2 (l1.length : Int) t108 t109 t110 w0 _ ?side1 ?side2 A3.out).mono ?_); (case side1 => repeat (first | (with_reducible first | exact HI0.out | apply IsS48.alloc | apply IsS48.drewN | apply IsS48.drew | apply IsS48.set_1 | apply IsS48.set_2) | exact HI0.out)); (case side2 => repeat (first | (with_reducible first | exact HB.out | apply below_alloc | apply pw_below_drewN | apply below_drew1 | refine below_set ?_ (IsS48.ge HI0.out)) | exact HB.out)); rintro e w6 ⟨rfl, hi, hb, hk⟩; refine ⟨_, rfl, ?_⟩; have n0_ := Aside0.mk (KeepBut.trans (by repeat (first | (with_reducible first | exact HK.out | apply KeepBut.set_ | apply keep_drewN | apply keep_drew | apply keep_alloc) | exact HK.out)) hk (.inl rfl)); have n1_ := Aside0.mk (hb); have n2_ := Aside0.mk (hi); clear HK; clear HB; clear HI0; have HK := n0_; have HB := n1_; have HI0 := n2_; clear n0_ n1_ n2_; (try clear hb); (try clear hb2); (try clear hk); (try clear hi); have p111 : 0 ≤ (t108 : Int) := of_decide_eq_true (by first | (with_reducible assumption) | assumption); have q111 : t108 < (l1.length : Int) := of_decide_eq_true (by first | (with_reducible assumption) | assumption); obtain ⟨ad111, e111, hx111_0⟩ := Kd.at_string HR1.out t108 p111 q111; cases e111; replace hx111_0 := keep_cell HK.out hx111_0 (by first | (rw [add_block]; exact hf1 _ rfl (by omega)) | exact hf1 _ rfl (by omega) | exact hf1 ad111 rfl (by omega)); replace p111 := eq_true p111; replace q111 := eq_true q111))
      go_ret
      (try simp only [Int.add_zero])
      exact ⟨by first | rfl | (simp [errW_none, errW_some] <;> rfl) | (simp [*, errW_none, errW_some] <;> rfl), by repeat (first | (with_reducible first | exact HI0.out | apply IsS48.alloc | apply IsS48.drewN | apply IsS48.drew | apply IsS48.set_1 | apply IsS48.set_2) | exact HI0.out), by repeat (first | (with_reducible first | exact HB.out | apply below_alloc | apply pw_below_drewN | apply below_drew1 | refine below_set ?_ (IsS48.ge HI0.out)) | exact HB.out), by repeat (first | (with_reducible first | exact HK.out | apply KeepBut.set_ | apply keep_drewN | apply keep_drew | apply keep_alloc) | exact HK.out)⟩
    · rw [if_neg c5] at H
      exact absurd H (by simp)
  · rw [if_neg c4] at H
    exact absurd H (by simp)
def spec_l1Cur_any1.f (s0_0 : List Int) (s0_1 : Int) (s0_2 : Int) : Option (ByteArray × Int × Int) := (spec_l1Cur_of.f s0_0 s0_1 s0_2 (([(⟨#[]⟩ : ByteArray), (⟨#[97]⟩ : ByteArray), (⟨#[97, 44, 98]⟩ : ByteArray), (⟨#[115, 111, 109, 101, 32, 119, 111, 114, 100, 115]⟩ : ByteArray), (⟨#[120, 35, 121]⟩ : ByteArray), (⟨#[45, 49, 50]⟩ : ByteArray), (⟨#[0, 255]⟩ : ByteArray), (⟨#[44, 44]⟩ : ByteArray), (⟨#[48]⟩ : ByteArray)] : List ByteArray))).bind fun bt115 => (some (bt115.1, bt115.2.1, bt115.2.2))
set_option maxHeartbeats 8000000 in
set_option maxRecDepth 100000 in
theorem spec_l1Cur_any1.calls (g : Nat) (s0_0 : List Int) (s0_1 : Int) (s0_2 : Int) (r1 : ByteArray) (r2 : Int) (r3 : Int) (w0 w : World) (hI : IsS48 w0 w g s0_0 s0_1 s0_2) (hB : Below w0.heap.size w0 w) (h : spec_l1Cur_any1.f s0_0 s0_1 s0_2 = some (r1, r2, r3)) :
    Calls Tryd.prog 34 #[.pointer (some ⟨g, 0, none⟩)] w fun e w' => e = .returned (.string r1) ∧ IsS48 w0 w' g s0_0 r2 r3 ∧ Below w0.heap.size w0 w' ∧ KeepBut w w' g none := by
  have HI0 := Aside0.mk hI
  have HK := Aside0.mk (KeepBut.refl w g none)
  have HL := Aside0.mk hB.size
  clear hI
  have HW0 := Aside0.mk hB.size
  have HB := Aside0.mk hB
  clear hB
  have H : ((spec_l1Cur_of.f s0_0 s0_1 s0_2 (([(⟨#[]⟩ : ByteArray), (⟨#[97]⟩ : ByteArray), (⟨#[97, 44, 98]⟩ : ByteArray), (⟨#[115, 111, 109, 101, 32, 119, 111, 114, 100, 115]⟩ : ByteArray), (⟨#[120, 35, 121]⟩ : ByteArray), (⟨#[45, 49, 50]⟩ : ByteArray), (⟨#[0, 255]⟩ : ByteArray), (⟨#[44, 44]⟩ : ByteArray), (⟨#[48]⟩ : ByteArray)] : List ByteArray))).bind fun bt115 => (some (bt115.1, bt115.2.1, bt115.2.2))) = some (r1, r2, r3) := h
  clear h
  obtain ⟨y112, hy112⟩ : ∃ y_ : List ByteArray, y_ = (([(⟨#[]⟩ : ByteArray), (⟨#[97]⟩ : ByteArray), (⟨#[97, 44, 98]⟩ : ByteArray), (⟨#[115, 111, 109, 101, 32, 119, 111, 114, 100, 115]⟩ : ByteArray), (⟨#[120, 35, 121]⟩ : ByteArray), (⟨#[45, 49, 50]⟩ : ByteArray), (⟨#[0, 255]⟩ : ByteArray), (⟨#[44, 44]⟩ : ByteArray), (⟨#[48]⟩ : ByteArray)] : List ByteArray)) := ⟨_, rfl⟩
  replace H : ((spec_l1Cur_of.f s0_0 s0_1 s0_2 y112).bind fun bt115 => (some (bt115.1, bt115.2.1, bt115.2.2))) = some (r1, r2, r3) := by first | (rw [hy112]; with_reducible exact H) | (have H2_ := (Option.bind_some _ _).symm.trans H; rw [hy112]; with_reducible exact H2_) | (have H2_ := (Option.bind_some _ _).symm.trans H; with_reducible exact H2_) | with_reducible exact H | (rw [hy112]; exact H) | exact H
  have Ny112 := Aside0.mk hy112
  clear hy112
  replace H := Option.bind_eq_some_iff.mp H
  obtain ⟨⟨t115, t116, t117⟩, A20, H⟩ := H
  replace H : (some (t115, t116, t117)) = some (r1, r2, r3) := H
  have A2 := Aside0.mk A20
  clear A20
  simp only [Option.some.injEq, Prod.mk.injEq] at H
  obtain ⟨rfl, rfl, rfl⟩ := H
  go_enter Tryd.func34, Tryd.ntmps34
  go_wp2_with (first | ((with_reducible refine gate_dst (N := 4) rfl ?_); refine Kd.R_lit Kd.string _ 9 ?hg (N := 4) ?hd (xs := ([(⟨#[]⟩ : ByteArray), (⟨#[97]⟩ : ByteArray), (⟨#[97, 44, 98]⟩ : ByteArray), (⟨#[115, 111, 109, 101, 32, 119, 111, 114, 100, 115]⟩ : ByteArray), (⟨#[120, 35, 121]⟩ : ByteArray), (⟨#[45, 49, 50]⟩ : ByteArray), (⟨#[0, 255]⟩ : ByteArray), (⟨#[44, 44]⟩ : ByteArray), (⟨#[48]⟩ : ByteArray)] : List ByteArray)) (inner := [.string (⟨#[]⟩ : ByteArray), .string (⟨#[97]⟩ : ByteArray), .string (⟨#[97, 44, 98]⟩ : ByteArray), .string (⟨#[115, 111, 109, 101, 32, 119, 111, 114, 100, 115]⟩ : ByteArray), .string (⟨#[120, 35, 121]⟩ : ByteArray), .string (⟨#[45, 49, 50]⟩ : ByteArray), .string (⟨#[0, 255]⟩ : ByteArray), .string (⟨#[44, 44]⟩ : ByteArray), .string (⟨#[48]⟩ : ByteArray)]) (ok := fun _ => True) (okp := fun _ => True) ?hr ?hp (fun _ hk => hk) trivial (Below.refl _ _) (Nat.le_refl _) (by simp) ?_; (case hd => rfl); (case hg => rfl); (case hr => first | (go_simp; done) | (go_simp; rfl)); (case hp => exact (Reps.one (show Kd.M Kd.string _ _ _ (⟨#[]⟩ : ByteArray) [.string (⟨#[]⟩ : ByteArray)] from rfl) (Reps.one (show Kd.M Kd.string _ _ _ (⟨#[97]⟩ : ByteArray) [.string (⟨#[97]⟩ : ByteArray)] from rfl) (Reps.one (show Kd.M Kd.string _ _ _ (⟨#[97, 44, 98]⟩ : ByteArray) [.string (⟨#[97, 44, 98]⟩ : ByteArray)] from rfl) (Reps.one (show Kd.M Kd.string _ _ _ (⟨#[115, 111, 109, 101, 32, 119, 111, 114, 100, 115]⟩ : ByteArray) [.string (⟨#[115, 111, 109, 101, 32, 119, 111, 114, 100, 115]⟩ : ByteArray)] from rfl) (Reps.one (show Kd.M Kd.string _ _ _ (⟨#[120, 35, 121]⟩ : ByteArray) [.string (⟨#[120, 35, 121]⟩ : ByteArray)] from rfl) (Reps.one (show Kd.M Kd.string _ _ _ (⟨#[45, 49, 50]⟩ : ByteArray) [.string (⟨#[45, 49, 50]⟩ : ByteArray)] from rfl) (Reps.one (show Kd.M Kd.string _ _ _ (⟨#[0, 255]⟩ : ByteArray) [.string (⟨#[0, 255]⟩ : ByteArray)] from rfl) (Reps.one (show Kd.M Kd.string _ _ _ (⟨#[44, 44]⟩ : ByteArray) [.string (⟨#[44, 44]⟩ : ByteArray)] from rfl) (Reps.one (show Kd.M Kd.string _ _ _ (⟨#[48]⟩ : ByteArray) [.string (⟨#[48]⟩ : ByteArray)] from rfl) (Reps.none _ _))))))))))); intro v113 w3 ho4 hb hg_ hnew_; clear hg_ hnew_; (first | rw [← Ny112.out] at ho4 | (simp only [Int.reduceToNat] at ho4; rw [← Ny112.out] at ho4)); have n0_ := Aside0.mk (Kd.R_lower ho4 (keep_size (w := w) (g := g) (row := none) (by repeat (first | (with_reducible first | exact HK.out | apply KeepBut.set_ | apply keep_drewN | apply keep_drew | apply keep_alloc) | exact HK.out)))); have n1_ := Aside0.mk (IsS48.below (by repeat (first | (with_reducible first | exact HI0.out | apply IsS48.alloc | apply IsS48.drewN | apply IsS48.drew | apply IsS48.set_1 | apply IsS48.set_2) | exact HI0.out)) hb); have n2_ := Aside0.mk (KeepBut.trans (by repeat (first | (with_reducible first | exact HK.out | apply KeepBut.set_ | apply keep_drewN | apply keep_drew | apply keep_alloc) | exact HK.out)) (KeepBut.of_below hb g none) (.inl rfl)); have n3_ := Aside0.mk (below_step (by repeat (first | (with_reducible first | exact HB.out | apply below_alloc | apply pw_below_drewN | apply below_drew1 | refine below_set ?_ (IsS48.ge HI0.out)) | exact HB.out)) hb); clear HI0; clear HK; clear HB; have HO114 := n0_; have HI0 := n1_; have HK := n2_; have HB := n3_; clear n0_ n1_ n2_ n3_; clear hb ho4; obtain ⟨Ao5, co5, eo5⟩ := Kd.R_slice HO114.out; subst eo5) | ((with_reducible refine gate_callee (f := 35) rfl ?_); refine goesL_ (some 5) rfl rfl Tryd.func35 (by kernel_rfl) rfl #[.pointer (some ⟨g, 0, none⟩), .slice Ao5 y112.length co5] rfl (by (try simp only [List.map_toArray, List.map_cons, List.map_nil]); first | done | rfl | (simp only [List.length_drop, List.length_take]; rfl)) ?_; (with_reducible refine (spec_l1Cur_of.calls g s0_0 s0_1 s0_2 _ _ y112 t115 t116 t117 w0 _ ?side1 ?side2 ?side3 ?side4 ?side5 A2.out).mono ?_); (case side1 => repeat (first | (with_reducible first | exact HI0.out | apply IsS48.alloc | apply IsS48.drewN | apply IsS48.drew | apply IsS48.set_1 | apply IsS48.set_2) | exact HI0.out)); (case side2 => repeat (first | (with_reducible first | exact HB.out | apply below_alloc | apply pw_below_drewN | apply below_drew1 | refine below_set ?_ (IsS48.ge HI0.out)) | exact HB.out)); (case side3 => repeat (first | exact (Kd.R_reads' HO114.out).2.2 | (with_reducible refine Kd.C_alloc ?_ _) | (with_reducible refine Kd.C_drewN ?_ _) | (with_reducible refine Kd.C_drew ?_))); (case side4 => exact (Kd.R_reads' HO114.out).2.1); (case side5 => exact far_slice (IsS48.own_ne HI0.out HO114.out (by decide))); rintro e w6 ⟨rfl, hi, hb, hk⟩; refine ⟨_, rfl, ?_⟩; have n0_ := Aside0.mk (Kd.R_mono (Kd.R_keep (IsS48.apart (show IsS48 w0 _ g s0_0 s0_1 s0_2 from by repeat (first | (with_reducible first | exact HI0.out | apply IsS48.alloc | apply IsS48.drewN | apply IsS48.drew | apply IsS48.set_1 | apply IsS48.set_2) | exact HI0.out)) (by (with_reducible repeat (first | apply Kd.R_alloc | apply Kd.R_drewN | apply Kd.R_drew)); exact HO114.out) (by decide)) hk (fun _ h => h.2)) (fun _ h => h.1)); have n1_ := Aside0.mk (KeepBut.trans (by repeat (first | (with_reducible first | exact HK.out | apply KeepBut.set_ | apply keep_drewN | apply keep_drew | apply keep_alloc) | exact HK.out)) hk (.inl rfl)); have n2_ := Aside0.mk (hb); have n3_ := Aside0.mk (hi); clear HO114; clear HK; clear HB; clear HI0; have HO114 := n0_; have HK := n1_; have HB := n2_; have HI0 := n3_; clear n0_ n1_ n2_ n3_; (try clear hb); (try clear hb2); (try clear hk); (try clear hi)))
  go_ret
  (try simp only [Int.add_zero])
  exact ⟨by first | rfl | (simp [errW_none, errW_some] <;> rfl) | (simp [*, errW_none, errW_some] <;> rfl), by repeat (first | (with_reducible first | exact HI0.out | apply IsS48.alloc | apply IsS48.drewN | apply IsS48.drew | apply IsS48.set_1 | apply IsS48.set_2) | exact HI0.out), by repeat (first | (with_reducible first | exact HB.out | apply below_alloc | apply pw_below_drewN | apply below_drew1 | refine below_set ?_ (IsS48.ge HI0.out)) | exact HB.out), by repeat (first | (with_reducible first | exact HK.out | apply KeepBut.set_ | apply keep_drewN | apply keep_drew | apply keep_alloc) | exact HK.out)⟩
def spec_l1Cur_among.f (s0_0 : List Int) (s0_1 : Int) (s0_2 : Int) (l1 : List Int) : Option (Int × Int × Int) := (spec_l1Cur_pick.f s0_0 s0_1 s0_2 (l1.length : Int)).bind fun bt118 => (if 0 ≤ bt118.1 then (if bt118.1 < (l1.length : Int) then (some (rd l1 bt118.1, bt118.2.1, bt118.2.2)) else (none)) else (none))
set_option maxHeartbeats 8000000 in
set_option maxRecDepth 100000 in
theorem spec_l1Cur_among.calls (g : Nat) (s0_0 : List Int) (s0_1 : Int) (s0_2 : Int) (A1 : Option Addr) (c1 : Nat) (l1 : List Int) (r1 : Int) (r2 : Int) (r3 : Int) (w0 w : World) (hI : IsS48 w0 w g s0_0 s0_1 s0_2) (hB : Below w0.heap.size w0 w) (hr1 : Kd.C (Kd.int .i64) w A1 l1.length l1) (hc1 : l1.length ≤ c1) (hf1 : ∀ ad, A1 = some ad → 0 < l1.length → ad.block ≠ g) (h : spec_l1Cur_among.f s0_0 s0_1 s0_2 l1 = some (r1, r2, r3)) :
    Calls Tryd.prog 44 #[.pointer (some ⟨g, 0, none⟩), .slice A1 l1.length c1] w fun e w' => e = .returned (.int .i64 r1) ∧ IsS48 w0 w' g s0_0 r2 r3 ∧ Below w0.heap.size w0 w' ∧ KeepBut w w' g none := by
  have HR1 := Aside0.mk hr1
  have HC1 := Aside0.mk hc1
  clear hr1 hc1
  have HI0 := Aside0.mk hI
  have HK := Aside0.mk (KeepBut.refl w g none)
  have HL := Aside0.mk hB.size
  clear hI
  have HW0 := Aside0.mk hB.size
  have HB := Aside0.mk hB
  clear hB
  have H : ((spec_l1Cur_pick.f s0_0 s0_1 s0_2 (l1.length : Int)).bind fun bt118 => (if 0 ≤ bt118.1 then (if bt118.1 < (l1.length : Int) then (some (rd l1 bt118.1, bt118.2.1, bt118.2.2)) else (none)) else (none))) = some (r1, r2, r3) := h
  clear h
  replace H := Option.bind_eq_some_iff.mp H
  obtain ⟨⟨t118, t119, t120⟩, A30, H⟩ := H
  replace H : (if 0 ≤ t118 then (if t118 < (l1.length : Int) then (some (rd l1 t118, t119, t120)) else (none)) else (none)) = some (r1, r2, r3) := H
  have A3 := Aside0.mk A30
  clear A30
  by_cases c4 : 0 ≤ t118
  · rw [if_pos c4] at H
    have c4b0 : decide (0 ≤ t118) = true := decide_eq_true c4
    clear c4
    by_cases c5 : t118 < (l1.length : Int)
    · rw [if_pos c5] at H
      have c5b0 : decide (t118 < (l1.length : Int)) = true := decide_eq_true c5
      clear c5
      simp only [Option.some.injEq, Prod.mk.injEq] at H
      obtain ⟨rfl, rfl, rfl⟩ := H
      go_enter Tryd.func44, Tryd.ntmps44
      go_wp2_with (first | ((with_reducible refine gate_callee (f := 37) rfl ?_); refine goesL_ (some 9) rfl rfl Tryd.func37 (by kernel_rfl) rfl #[.pointer (some ⟨g, 0, none⟩), .int .i64 (l1.length : Int)] rfl (by (try simp only [List.map_toArray, List.map_cons, List.map_nil]); first | done | rfl | (simp only [List.length_drop, List.length_take]; rfl)) ?_; (with_reducible refine (spec_l1Cur_pick.calls g s0_0 s0_1 s0_2 (l1.length : Int) t118 t119 t120 w0 _ ?side1 ?side2 A3.out).mono ?_); (case side1 => repeat (first | (with_reducible first | exact HI0.out | apply IsS48.alloc | apply IsS48.drewN | apply IsS48.drew | apply IsS48.set_1 | apply IsS48.set_2) | exact HI0.out)); (case side2 => repeat (first | (with_reducible first | exact HB.out | apply below_alloc | apply pw_below_drewN | apply below_drew1 | refine below_set ?_ (IsS48.ge HI0.out)) | exact HB.out)); rintro e w6 ⟨rfl, hi, hb, hk⟩; refine ⟨_, rfl, ?_⟩; have n0_ := Aside0.mk (KeepBut.trans (by repeat (first | (with_reducible first | exact HK.out | apply KeepBut.set_ | apply keep_drewN | apply keep_drew | apply keep_alloc) | exact HK.out)) hk (.inl rfl)); have n1_ := Aside0.mk (hb); have n2_ := Aside0.mk (hi); clear HK; clear HB; clear HI0; have HK := n0_; have HB := n1_; have HI0 := n2_; clear n0_ n1_ n2_; (try clear hb); (try clear hb2); (try clear hk); (try clear hi); have p121 : 0 ≤ (t118 : Int) := of_decide_eq_true (by first | (with_reducible assumption) | assumption); have q121 : t118 < (l1.length : Int) := of_decide_eq_true (by first | (with_reducible assumption) | assumption); obtain ⟨ad121, e121, hx121_0⟩ := Kd.at_int HR1.out t118 p121 q121; cases e121; replace hx121_0 := keep_cell HK.out hx121_0 (by first | (rw [add_block]; exact hf1 _ rfl (by omega)) | exact hf1 _ rfl (by omega) | exact hf1 ad121 rfl (by omega)); replace p121 := eq_true p121; replace q121 := eq_true q121))
      go_ret
      (try simp only [Int.add_zero])
      exact ⟨by first | rfl | (simp [errW_none, errW_some] <;> rfl) | (simp [*, errW_none, errW_some] <;> rfl), by repeat (first | (with_reducible first | exact HI0.out | apply IsS48.alloc | apply IsS48.drewN | apply IsS48.drew | apply IsS48.set_1 | apply IsS48.set_2) | exact HI0.out), by repeat (first | (with_reducible first | exact HB.out | apply below_alloc | apply pw_below_drewN | apply below_drew1 | refine below_set ?_ (IsS48.ge HI0.out)) | exact HB.out), by repeat (first | (with_reducible first | exact HK.out | apply KeepBut.set_ | apply keep_drewN | apply keep_drew | apply keep_alloc) | exact HK.out)⟩
    · rw [if_neg c5] at H
      exact absurd H (by simp)
  · rw [if_neg c4] at H
    exact absurd H (by simp)
def spec_l1Cur_one.f (s0_0 : List Int) (s0_1 : Int) (s0_2 : Int) (a1 : Int) : Option (Bool × Int × Int) := (spec_l1Cur_pick.f s0_0 s0_1 s0_2 a1).bind fun bt122 => (some ((bt122.1 == 0), bt122.2.1, bt122.2.2))
set_option maxHeartbeats 8000000 in
set_option maxRecDepth 100000 in
theorem spec_l1Cur_one.calls (g : Nat) (s0_0 : List Int) (s0_1 : Int) (s0_2 : Int) (a1 : Int) (r1 : Bool) (r2 : Int) (r3 : Int) (w0 w : World) (hI : IsS48 w0 w g s0_0 s0_1 s0_2) (hB : Below w0.heap.size w0 w) (h : spec_l1Cur_one.f s0_0 s0_1 s0_2 a1 = some (r1, r2, r3)) :
    Calls Tryd.prog 38 #[.pointer (some ⟨g, 0, none⟩), .int .i64 a1] w fun e w' => e = .returned (.bool r1) ∧ IsS48 w0 w' g s0_0 r2 r3 ∧ Below w0.heap.size w0 w' ∧ KeepBut w w' g none := by
  have HI0 := Aside0.mk hI
  have HK := Aside0.mk (KeepBut.refl w g none)
  have HL := Aside0.mk hB.size
  clear hI
  have HW0 := Aside0.mk hB.size
  have HB := Aside0.mk hB
  clear hB
  have H : ((spec_l1Cur_pick.f s0_0 s0_1 s0_2 a1).bind fun bt122 => (some ((bt122.1 == 0), bt122.2.1, bt122.2.2))) = some (r1, r2, r3) := h
  clear h
  replace H := Option.bind_eq_some_iff.mp H
  obtain ⟨⟨t122, t123, t124⟩, A30, H⟩ := H
  replace H : (some ((t122 == 0), t123, t124)) = some (r1, r2, r3) := H
  have A3 := Aside0.mk A30
  clear A30
  simp only [Option.some.injEq, Prod.mk.injEq] at H
  obtain ⟨rfl, rfl, rfl⟩ := H
  go_enter Tryd.func38, Tryd.ntmps38
  go_wp2_with (first | ((with_reducible refine gate_callee (f := 37) rfl ?_); refine goesL_ (some 7) rfl rfl Tryd.func37 (by kernel_rfl) rfl #[.pointer (some ⟨g, 0, none⟩), .int .i64 a1] rfl (by (try simp only [List.map_toArray, List.map_cons, List.map_nil]); first | done | rfl | (simp only [List.length_drop, List.length_take]; rfl)) ?_; (with_reducible refine (spec_l1Cur_pick.calls g s0_0 s0_1 s0_2 a1 t122 t123 t124 w0 _ ?side1 ?side2 A3.out).mono ?_); (case side1 => repeat (first | (with_reducible first | exact HI0.out | apply IsS48.alloc | apply IsS48.drewN | apply IsS48.drew | apply IsS48.set_1 | apply IsS48.set_2) | exact HI0.out)); (case side2 => repeat (first | (with_reducible first | exact HB.out | apply below_alloc | apply pw_below_drewN | apply below_drew1 | refine below_set ?_ (IsS48.ge HI0.out)) | exact HB.out)); rintro e w4 ⟨rfl, hi, hb, hk⟩; refine ⟨_, rfl, ?_⟩; have n0_ := Aside0.mk (KeepBut.trans (by repeat (first | (with_reducible first | exact HK.out | apply KeepBut.set_ | apply keep_drewN | apply keep_drew | apply keep_alloc) | exact HK.out)) hk (.inl rfl)); have n1_ := Aside0.mk (hb); have n2_ := Aside0.mk (hi); clear HK; clear HB; clear HI0; have HK := n0_; have HB := n1_; have HI0 := n2_; clear n0_ n1_ n2_; (try clear hb); (try clear hb2); (try clear hk); (try clear hi)))
  go_ret
  (try simp only [Int.add_zero])
  exact ⟨by first | rfl | (simp [errW_none, errW_some] <;> rfl) | (simp [*, errW_none, errW_some] <;> rfl), by repeat (first | (with_reducible first | exact HI0.out | apply IsS48.alloc | apply IsS48.drewN | apply IsS48.drew | apply IsS48.set_1 | apply IsS48.set_2) | exact HI0.out), by repeat (first | (with_reducible first | exact HB.out | apply below_alloc | apply pw_below_drewN | apply below_drew1 | refine below_set ?_ (IsS48.ge HI0.out)) | exact HB.out), by repeat (first | (with_reducible first | exact HK.out | apply KeepBut.set_ | apply keep_drewN | apply keep_drew | apply keep_alloc) | exact HK.out)⟩
def spec_l1Num.f : Nat → Int → Option (ByteArray)
  | 0, _ => none
  | k + 1, a0 => if a0 < 0 then (if a0 > (-10) then ((spec_l1Num.f k (wrap64 (-a0))).bind fun t125 => (if 1 + t125.size ≤ 9223372036854775807 then (some ((⟨#[45]⟩ : ByteArray) ++ t125)) else (none))) else ((spec_l1Num.f k (wrap64 (Int.tdiv a0 10))).bind fun t126 => ((spec_l1Num.f k (wrap64 (-(Int.tmod a0 10)))).bind fun t127 => (if t126.size + t127.size ≤ 9223372036854775807 then (some (t126 ++ t127)) else (none))))) else (if a0 < 10 then (if 0 ≤ a0 then (if a0 ≤ (wrap64 (a0 + 1)) then (if (wrap64 (a0 + 1)) ≤ 10 then (some ((⟨#[48, 49, 50, 51, 52, 53, 54, 55, 56, 57]⟩ : ByteArray).extract (a0 : Int).toNat ((wrap64 (a0 + 1)) : Int).toNat)) else (none)) else (none)) else (none)) else ((spec_l1Num.f k (wrap64 (Int.tdiv a0 10))).bind fun t128 => (if 0 ≤ (Int.tmod a0 10) then (if (Int.tmod a0 10) ≤ (wrap64 ((Int.tmod a0 10) + 1)) then (if (wrap64 ((Int.tmod a0 10) + 1)) ≤ 10 then (if t128.size + ((⟨#[48, 49, 50, 51, 52, 53, 54, 55, 56, 57]⟩ : ByteArray).extract ((Int.tmod a0 10) : Int).toNat ((wrap64 ((Int.tmod a0 10) + 1)) : Int).toNat).size ≤ 9223372036854775807 then (some (t128 ++ ((⟨#[48, 49, 50, 51, 52, 53, 54, 55, 56, 57]⟩ : ByteArray).extract ((Int.tmod a0 10) : Int).toNat ((wrap64 ((Int.tmod a0 10) + 1)) : Int).toNat))) else (none)) else (none)) else (none)) else (none))))
def spec_l1Num.T7 : Bool × List (List Nat × List Nat) := (true, [([], []), ([0], [0]), ([1], [1]), ([], []), ([3], [3]), ([], []), ([5], [5]), ([6], [6]), ([4, 7], [4, 7]), ([2, 8], [2, 8]), ([9, 2, 0, 1, 2, 3, 4, 5, 6, 7, 8, 9], [9])])
def spec_l1Num.B7 : List Nat := [0, 1, 3, 0, 8, 0, 32, 96, 248, 511, 1023]
theorem spec_l1Num.tab7 : rtab .any (opsOf Tryd.f48 7) = spec_l1Num.T7 := by kernel_rfl
theorem spec_l1Num.bits7 : waitsOk spec_l1Num.T7.2 spec_l1Num.B7 = true := by kernel_rfl
set_option maxHeartbeats 8000000 in
set_option maxRecDepth 100000 in
theorem spec_l1Num.calls (k : Nat) : ∀ (a0 : Int) (r : ByteArray) (w : World) (h : spec_l1Num.f k a0 = some r),
    Calls Tryd.prog 48 #[.int .i64 a0] w fun e w' => e = .returned (.string r) ∧ Below w.heap.size w w' := by
  induction k using Nat.strongRecOn with
  | _ k ih =>
  intro a0 r w h
  cases k with
  | zero => exact absurd h (by simp [spec_l1Num.f])
  | succ k =>
  simp only [spec_l1Num.f] at h
  have HB := Aside0.mk (Below.refl w.heap.size w)
  have H : (if a0 < 0 then (if a0 > (-10) then ((spec_l1Num.f k (wrap64 (-a0))).bind fun t125 => (if 1 + t125.size ≤ 9223372036854775807 then (some ((⟨#[45]⟩ : ByteArray) ++ t125)) else (none))) else ((spec_l1Num.f k (wrap64 (Int.tdiv a0 10))).bind fun t126 => ((spec_l1Num.f k (wrap64 (-(Int.tmod a0 10)))).bind fun t127 => (if t126.size + t127.size ≤ 9223372036854775807 then (some (t126 ++ t127)) else (none))))) else (if a0 < 10 then (if 0 ≤ a0 then (if a0 ≤ (wrap64 (a0 + 1)) then (if (wrap64 (a0 + 1)) ≤ 10 then (some ((⟨#[48, 49, 50, 51, 52, 53, 54, 55, 56, 57]⟩ : ByteArray).extract (a0 : Int).toNat ((wrap64 (a0 + 1)) : Int).toNat)) else (none)) else (none)) else (none)) else ((spec_l1Num.f k (wrap64 (Int.tdiv a0 10))).bind fun t128 => (if 0 ≤ (Int.tmod a0 10) then (if (Int.tmod a0 10) ≤ (wrap64 ((Int.tmod a0 10) + 1)) then (if (wrap64 ((Int.tmod a0 10) + 1)) ≤ 10 then (if t128.size + ((⟨#[48, 49, 50, 51, 52, 53, 54, 55, 56, 57]⟩ : ByteArray).extract ((Int.tmod a0 10) : Int).toNat ((wrap64 ((Int.tmod a0 10) + 1)) : Int).toNat).size ≤ 9223372036854775807 then (some (t128 ++ ((⟨#[48, 49, 50, 51, 52, 53, 54, 55, 56, 57]⟩ : ByteArray).extract ((Int.tmod a0 10) : Int).toNat ((wrap64 ((Int.tmod a0 10) + 1)) : Int).toNat))) else (none)) else (none)) else (none)) else (none))))) = some r := h
  clear h
  by_cases c2 : a0 < 0
  · rw [if_pos c2] at H
    have c2b0 : decide (a0 < 0) = true := decide_eq_true c2
    clear c2
    by_cases c3 : a0 > (-10)
    · rw [if_pos c3] at H
      have c3b0 : decide ((-10) < a0) = true := decide_eq_true c3
      clear c3
      replace H := Option.bind_eq_some_iff.mp H
      obtain ⟨t125, A40, H⟩ := H
      replace H : (if 1 + t125.size ≤ 9223372036854775807 then (some ((⟨#[45]⟩ : ByteArray) ++ t125)) else (none)) = some r := H
      have A4 := Aside0.mk A40
      clear A40
      by_cases c5 : 1 + t125.size ≤ 9223372036854775807
      · rw [if_pos c5] at H
        have c5b0 := eq_true c5
        have c5b1 : decide (1 + t125.size ≤ 9223372036854775807) = true := decide_eq_true c5
        try have c5b2 : (9223372036854775807 < 1 + t125.size) = False := eq_false (Nat.not_lt.2 c5)
        obtain rfl := Option.some.inj H
        go_enter Tryd.func48, Tryd.ntmps48
        go_wp2_with (first | ((with_reducible refine gate_callee (f := 48) rfl ?_); refine goesL_ (some 9) rfl rfl Tryd.func48 (by kernel_rfl) rfl #[.int .i64 (wrap64 (-a0))] rfl (by (try simp only [List.map_toArray, List.map_cons, List.map_nil]); first | done | rfl | (simp only [List.length_drop, List.length_take]; rfl)) ?_; (with_reducible refine (ih k (by omega) (wrap64 (-a0)) t125 _ A4.out).mono ?_); rintro e w6 ⟨rfl, hb⟩; refine ⟨_, rfl, ?_⟩; have n0_ := Aside0.mk (below_step (by repeat (first | (with_reducible first | exact HB.out | apply below_alloc | apply pw_below_drewN | apply below_drew1) | exact HB.out)) hb); clear HB; have HB := n0_; clear n0_; (try clear hb); (try clear hb2); (try clear hk); (try clear hi)))
        go_ret
        exact ⟨by first | rfl | (simp [errW_none, errW_some] <;> rfl) | (simp [*, errW_none, errW_some] <;> rfl), by repeat (first | (with_reducible first | exact HB.out | apply below_alloc | apply pw_below_drewN | apply below_drew1) | exact HB.out)⟩
      · rw [if_neg c5] at H
        exact absurd H (by simp)
    · rw [if_neg c3] at H
      have c3b0 : decide ((-10) < a0) = false := decide_eq_false c3
      clear c3
      replace H := Option.bind_eq_some_iff.mp H
      obtain ⟨t126, A70, H⟩ := H
      replace H : ((spec_l1Num.f k (wrap64 (-(Int.tmod a0 10)))).bind fun t127 => (if t126.size + t127.size ≤ 9223372036854775807 then (some (t126 ++ t127)) else (none))) = some r := H
      have A7 := Aside0.mk A70
      clear A70
      replace H := Option.bind_eq_some_iff.mp H
      obtain ⟨t127, A80, H⟩ := H
      replace H : (if t126.size + t127.size ≤ 9223372036854775807 then (some (t126 ++ t127)) else (none)) = some r := H
      have A8 := Aside0.mk A80
      clear A80
      by_cases c9 : t126.size + t127.size ≤ 9223372036854775807
      · rw [if_pos c9] at H
        have c9b0 := eq_true c9
        have c9b1 : decide (t126.size + t127.size ≤ 9223372036854775807) = true := decide_eq_true c9
        try have c9b2 : (9223372036854775807 < t126.size + t127.size) = False := eq_false (Nat.not_lt.2 c9)
        obtain rfl := Option.some.inj H
        go_enter Tryd.func48, Tryd.ntmps48
        go_wp2_with (first | ((with_reducible refine gate_callee (f := 48) rfl ?_); refine goesL_ (some 13) rfl rfl Tryd.func48 (by kernel_rfl) rfl #[.int .i64 (wrap64 (Int.tdiv a0 10))] rfl (by (try simp only [List.map_toArray, List.map_cons, List.map_nil]); first | done | rfl | (simp only [List.length_drop, List.length_take]; rfl)) ?_; (with_reducible refine (ih k (by omega) (wrap64 (Int.tdiv a0 10)) t126 _ A7.out).mono ?_); rintro e w10 ⟨rfl, hb⟩; refine ⟨_, rfl, ?_⟩; have n0_ := Aside0.mk (below_step (by repeat (first | (with_reducible first | exact HB.out | apply below_alloc | apply pw_below_drewN | apply below_drew1) | exact HB.out)) hb); clear HB; have HB := n0_; clear n0_; (try clear hb); (try clear hb2); (try clear hk); (try clear hi)) | ((with_reducible refine gate_callee (f := 48) rfl ?_); refine goesL_ (some 17) rfl rfl Tryd.func48 (by kernel_rfl) rfl #[.int .i64 (wrap64 (-(Int.tmod a0 10)))] rfl (by (try simp only [List.map_toArray, List.map_cons, List.map_nil]); first | done | rfl | (simp only [List.length_drop, List.length_take]; rfl)) ?_; (with_reducible refine (ih k (by omega) (wrap64 (-(Int.tmod a0 10))) t127 _ A8.out).mono ?_); rintro e w11 ⟨rfl, hb⟩; refine ⟨_, rfl, ?_⟩; have n0_ := Aside0.mk (below_step (by repeat (first | (with_reducible first | exact HB.out | apply below_alloc | apply pw_below_drewN | apply below_drew1) | exact HB.out)) hb); clear HB; have HB := n0_; clear n0_; (try clear hb); (try clear hb2); (try clear hk); (try clear hi)))
        go_ret
        exact ⟨by first | rfl | (simp [errW_none, errW_some] <;> rfl) | (simp [*, errW_none, errW_some] <;> rfl), by repeat (first | (with_reducible first | exact HB.out | apply below_alloc | apply pw_below_drewN | apply below_drew1) | exact HB.out)⟩
      · rw [if_neg c9] at H
        exact absurd H (by simp)
  · rw [if_neg c2] at H
    have c2b0 : decide (a0 < 0) = false := decide_eq_false c2
    clear c2
    by_cases c12 : a0 < 10
    · rw [if_pos c12] at H
      have c12b0 : decide (a0 < 10) = true := decide_eq_true c12
      clear c12
      by_cases c13 : 0 ≤ a0
      · rw [if_pos c13] at H
        have c13b0 := eq_true c13
        have c13b1 : decide (0 ≤ a0) = true := decide_eq_true c13
        clear c13
        by_cases c14 : a0 ≤ (wrap64 (a0 + 1))
        · rw [if_pos c14] at H
          have c14b0 := eq_true c14
          have c14b1 : decide (a0 ≤ (wrap64 (a0 + 1))) = true := decide_eq_true c14
          by_cases c15 : (wrap64 (a0 + 1)) ≤ 10
          · rw [if_pos c15] at H
            have c15b0 := eq_true c15
            have c15b1 : decide ((wrap64 (a0 + 1)) ≤ 10) = true := decide_eq_true c15
            obtain rfl := Option.some.inj H
            go_enter Tryd.func48, Tryd.ntmps48
            go_wp2
            go_ret
            exact ⟨by first | rfl | (simp [errW_none, errW_some] <;> rfl) | (simp [*, errW_none, errW_some] <;> rfl), by repeat (first | (with_reducible first | exact HB.out | apply below_alloc | apply pw_below_drewN | apply below_drew1) | exact HB.out)⟩
          · rw [if_neg c15] at H
            exact absurd H (by simp)
        · rw [if_neg c14] at H
          exact absurd H (by simp)
      · rw [if_neg c13] at H
        exact absurd H (by simp)
    · rw [if_neg c12] at H
      have c12b0 : decide (a0 < 10) = false := decide_eq_false c12
      clear c12
      replace H := Option.bind_eq_some_iff.mp H
      obtain ⟨t128, A160, H⟩ := H
      replace H : (if 0 ≤ (Int.tmod a0 10) then (if (Int.tmod a0 10) ≤ (wrap64 ((Int.tmod a0 10) + 1)) then (if (wrap64 ((Int.tmod a0 10) + 1)) ≤ 10 then (if t128.size + ((⟨#[48, 49, 50, 51, 52, 53, 54, 55, 56, 57]⟩ : ByteArray).extract ((Int.tmod a0 10) : Int).toNat ((wrap64 ((Int.tmod a0 10) + 1)) : Int).toNat).size ≤ 9223372036854775807 then (some (t128 ++ ((⟨#[48, 49, 50, 51, 52, 53, 54, 55, 56, 57]⟩ : ByteArray).extract ((Int.tmod a0 10) : Int).toNat ((wrap64 ((Int.tmod a0 10) + 1)) : Int).toNat))) else (none)) else (none)) else (none)) else (none)) = some r := H
      have A16 := Aside0.mk A160
      clear A160
      obtain ⟨ji17, hji17⟩ : ∃ j_ : Int, (Int.tmod a0 10) = j_ := ⟨_, rfl⟩
      replace H : (if 0 ≤ (ji17) then (if (ji17) ≤ (wrap64 ((ji17) + 1)) then (if (wrap64 ((ji17) + 1)) ≤ 10 then (if t128.size + ((⟨#[48, 49, 50, 51, 52, 53, 54, 55, 56, 57]⟩ : ByteArray).extract ((ji17) : Int).toNat ((wrap64 ((ji17) + 1)) : Int).toNat).size ≤ 9223372036854775807 then (some (t128 ++ ((⟨#[48, 49, 50, 51, 52, 53, 54, 55, 56, 57]⟩ : ByteArray).extract ((ji17) : Int).toNat ((wrap64 ((ji17) + 1)) : Int).toNat))) else (none)) else (none)) else (none)) else (none)) = some r := by first | (rw [hji17] at H; exact H) | (simp only [hji17] at H ⊢; exact H)
      (try rw [hji17] at A16)
      by_cases c18 : 0 ≤ (ji17)
      · rw [if_pos c18] at H
        have c18b0 := eq_true c18
        have c18b1 : decide (0 ≤ (ji17)) = true := decide_eq_true c18
        clear c18
        by_cases c19 : (ji17) ≤ (wrap64 ((ji17) + 1))
        · rw [if_pos c19] at H
          have c19b0 := eq_true c19
          have c19b1 : decide ((ji17) ≤ (wrap64 ((ji17) + 1))) = true := decide_eq_true c19
          by_cases c20 : (wrap64 ((ji17) + 1)) ≤ 10
          · rw [if_pos c20] at H
            have c20b0 := eq_true c20
            have c20b1 : decide ((wrap64 ((ji17) + 1)) ≤ 10) = true := decide_eq_true c20
            by_cases c21 : t128.size + ((⟨#[48, 49, 50, 51, 52, 53, 54, 55, 56, 57]⟩ : ByteArray).extract ((ji17) : Int).toNat ((wrap64 ((ji17) + 1)) : Int).toNat).size ≤ 9223372036854775807
            · rw [if_pos c21] at H
              have c21b0 := eq_true c21
              have c21b1 : decide (t128.size + ((⟨#[48, 49, 50, 51, 52, 53, 54, 55, 56, 57]⟩ : ByteArray).extract ((ji17) : Int).toNat ((wrap64 ((ji17) + 1)) : Int).toNat).size ≤ 9223372036854775807) = true := decide_eq_true c21
              try have c21b2 : (9223372036854775807 < t128.size + ((⟨#[48, 49, 50, 51, 52, 53, 54, 55, 56, 57]⟩ : ByteArray).extract ((ji17) : Int).toNat ((wrap64 ((ji17) + 1)) : Int).toNat).size) = False := eq_false (Nat.not_lt.2 c21)
              (try have c21z : (9223372036854775807 < t128.size + ((wrap64 ((ji17) + 1)).toNat - (ji17).toNat)) = False := eq_false (by have h_ := c21; have h10_ : (⟨#[48, 49, 50, 51, 52, 53, 54, 55, 56, 57]⟩ : ByteArray).size = 10 := rfl; simp only [ByteArray.size_extract, h10_] at h_; omega))
              obtain rfl := Option.some.inj H
              go_enter Tryd.func48, Tryd.ntmps48
              try go_wp2
              have n0_ := Aside0.mk (below_drew1 HB.out)
              clear HB
              have HB := n0_
              clear n0_
              refine start_ (n := 11) (S := fun w' => True) (ds := []) #[false, false, false, false, false, false, false, false, false, false, false] (by kernel_rfl) rfl rfl trivial (fun hHeld => ?_); refine with_tabW spec_l1Num.tab7 spec_l1Num.bits7 (fun HT_ HW_ => ?_)
              generalize w.drew = w22 at HB hHeld ⊢
              refine pure_ (i := 0) (N := some 25) (v := ?_) (a' := ?_) #[true, false, false, false, false, false, false, false, false, false, false] rfl rfl (any_of HT_.out (by kernel_rfl)) (fun _ _ _ h => h) (Or.inl ⟨by rfl, ?_⟩) ?_ ?_
              rotate_left
              · intro w'
                go_simp
                with_reducible rfl
              rotate_left
              · simp only [Act.put, List.setIfInBounds_toArray, List.set_cons_zero, List.set_cons_succ, i64_w, i32_w]
                rfl
              refine pure_ (i := 1) (N := some 26) (v := ?_) (a' := ?_) #[true, true, false, false, false, false, false, false, false, false, false] rfl rfl (any_of HT_.out (by kernel_rfl)) (fun _ _ _ h => h) (Or.inl ⟨by rfl, ?_⟩) ?_ ?_
              rotate_left
              · intro w'
                go_simp
                with_reducible rfl
              rotate_left
              · simp only [Act.put, List.setIfInBounds_toArray, List.set_cons_zero, List.set_cons_succ, i64_w, i32_w]
                rfl
              refine pure_ (i := 3) (N := some 28) (v := ?_) (a' := ?_) #[true, true, false, true, false, false, false, false, false, false, false] rfl rfl (any_of HT_.out (by kernel_rfl)) (fun _ _ _ h => h) (Or.inl ⟨by rfl, ?_⟩) ?_ ?_
              rotate_left
              · intro w'
                go_simp
                with_reducible rfl
              rotate_left
              · simp only [Act.put, List.setIfInBounds_toArray, List.set_cons_zero, List.set_cons_succ, i64_w, i32_w]
                rfl
              refine pure_ (i := 4) (N := some 29) (v := ?_) (a' := ?_) #[true, true, false, true, true, false, false, false, false, false, false] rfl rfl (any_of HT_.out (by kernel_rfl)) (fun _ _ _ h => h) (Or.inl ⟨by rfl, ?_⟩) ?_ ?_
              rotate_left
              · intro w'
                go_simp
                with_reducible rfl
              rotate_left
              · simp only [Act.put, List.setIfInBounds_toArray, List.set_cons_zero, List.set_cons_succ, i64_w, i32_w]
                rfl
              refine pure_ (i := 5) (N := some 30) (v := ?_) (a' := ?_) #[true, true, false, true, true, true, false, false, false, false, false] rfl rfl (any_of HT_.out (by kernel_rfl)) (fun _ _ _ h => h) (Or.inl ⟨by rfl, ?_⟩) ?_ ?_
              rotate_left
              · intro w'
                go_simp
                with_reducible rfl
              rotate_left
              · simp only [Act.put, List.setIfInBounds_toArray, List.set_cons_zero, List.set_cons_succ, i64_w, i32_w]
                rfl
              refine pure_ (i := 6) (N := some 31) (v := ?_) (a' := ?_) #[true, true, false, true, true, true, true, false, false, false, false] rfl rfl (any_of HT_.out (by kernel_rfl)) (fun _ _ _ h => h) (Or.inl ⟨by rfl, ?_⟩) ?_ ?_
              rotate_left
              · intro w'
                go_simp
                with_reducible rfl
              rotate_left
              · simp only [Act.put, List.setIfInBounds_toArray, List.set_cons_zero, List.set_cons_succ, i64_w, i32_w]
                rfl
              refine pure_ (i := 7) (N := some 32) (v := ?_) (a' := ?_) #[true, true, false, true, true, true, true, true, false, false, false] rfl rfl (any_of HT_.out (by kernel_rfl)) (fun _ _ _ h => h) (Or.inl ⟨by rfl, ?_⟩) ?_ ?_
              rotate_left
              · intro w'
                go_simp
                with_reducible rfl
              rotate_left
              · simp only [Act.put, List.setIfInBounds_toArray, List.set_cons_zero, List.set_cons_succ, i64_w, i32_w]
                rfl
              refine pure_ (i := 8) (N := some 33) (v := ?_) (a' := ?_) #[true, true, false, true, true, true, true, true, true, false, false] rfl rfl (any_of HT_.out (by kernel_rfl)) (fun _ _ _ h => h) (Or.inl ⟨by rfl, ?_⟩) ?_ ?_
              rotate_left
              · intro w'
                go_simp
                with_reducible rfl
              rotate_left
              · simp only [Act.put, List.setIfInBounds_toArray, List.set_cons_zero, List.set_cons_succ, i64_w, i32_w]
                rfl
              refine one_ (i := 2) (N := some 27) #[true, true, true, true, true, true, true, true, true, false, false] rfl rfl (one_of HT_.out (by kernel_rfl)) (by decide) (fun K hK => ?_)
              refine goes_ Tryd.func48 (by kernel_rfl) rfl #[.int .i64 (wrap64 (Int.tdiv a0 10))] (by rfl) rfl rfl (by (try simp only [List.map_toArray, List.map_cons, List.map_nil]); first | done | rfl | (simp only [List.length_drop, List.length_take]; rfl)) ?_
              with_reducible refine (ih k (by omega) (wrap64 (Int.tdiv a0 10)) t128 _ A16.out).mono ?_
              rintro e w23 ⟨rfl, hb⟩
              refine ⟨_, rfl, ?_⟩
              have n0_ := Aside0.mk (below_step (by repeat (first | (with_reducible first | exact HB.out | apply below_alloc | apply pw_below_drewN | apply below_drew1) | exact HB.out)) hb)
              clear HB
              have HB := n0_
              clear n0_
              (try clear hb)
              (try clear hb2)
              (try clear hk)
              (try clear hi)
              refine hK.out _ _ trivial (fun hHeld => ?_)
              clear hK K
              refine norm_ (a' := ?_) ?_ ?_
              rotate_left
              · show Act.put _ (some 27) _ = _
                simp only [Act.put, List.setIfInBounds_toArray, List.set_cons_zero, List.set_cons_succ, i64_w, i32_w]
                rfl
              refine pure_ (i := 9) (N := some 34) (v := ?_) (a' := ?_) #[true, true, true, true, true, true, true, true, true, true, false] rfl rfl (any_of HT_.out (by kernel_rfl)) (fun _ _ _ h => h) (Or.inl ⟨by rfl, ?_⟩) ?_ ?_
              rotate_left
              · intro w'
                go_simp
                with_reducible rfl
              rotate_left
              · simp only [Act.put, List.setIfInBounds_toArray, List.set_cons_zero, List.set_cons_succ, i64_w, i32_w]
                rfl
              refine pure_ (i := 10) (N := some 2) (v := ?_) (a' := ?_) #[true, true, true, true, true, true, true, true, true, true, true] rfl rfl (any_of HT_.out (by kernel_rfl)) (fun _ _ _ h => h) (Or.inl ⟨by rfl, ?_⟩) ?_ ?_
              rotate_left
              · intro w'
                go_simp
                with_reducible rfl
              rotate_left
              · simp only [Act.put, List.setIfInBounds_toArray, List.set_cons_zero, List.set_cons_succ, i64_w, i32_w]
                rfl
              refine done_ (done_of HT_.out (by kernel_rfl)) ?_
              try go_wp2
              go_ret
              exact ⟨by first | rfl | (simp [errW_none, errW_some] <;> rfl) | (simp only [← hji17]; first | rfl | (simp [errW_none, errW_some] <;> rfl)) | (simp [*, errW_none, errW_some] <;> rfl), by repeat (first | (with_reducible first | exact HB.out | apply below_alloc | apply pw_below_drewN | apply below_drew1) | exact HB.out)⟩
            · rw [if_neg c21] at H
              exact absurd H (by simp)
          · rw [if_neg c20] at H
            exact absurd H (by simp)
        · rw [if_neg c19] at H
          exact absurd H (by simp)
      · rw [if_neg c18] at H
        exact absurd H (by simp)
def impl_in.f (a0 : Int) (a1 : Int) (a2 : Int) : Option (Bool) := if a0 ≥ a1 then (some (decide (a0 ≤ a2))) else (some false)
set_option maxHeartbeats 8000000 in
set_option maxRecDepth 100000 in
theorem impl_in.calls (a0 : Int) (a1 : Int) (a2 : Int) (r : Bool) (w : World) (h : impl_in.f a0 a1 a2 = some r) :
    Calls Tryd.prog 45 #[.int .i64 a0, .int .i64 a1, .int .i64 a2] w fun e w' => e = .returned (.bool r) ∧ Drawn0 w w' := by
  have H : (if a0 ≥ a1 then (some (decide (a0 ≤ a2))) else (some false)) = some r := h
  clear h
  by_cases c4 : a0 ≥ a1
  · rw [if_pos c4] at H
    have c4b0 : decide (a1 ≤ a0) = true := decide_eq_true c4
    clear c4
    obtain rfl := Option.some.inj H
    go_enter Tryd.func45, Tryd.ntmps45
    go_wp2
    go_ret
    exact ⟨by first | rfl | (simp; done) | (simp [*]; done), by repeat (first | exact Drawn0.refl _ | apply Drawn0.step)⟩
  · rw [if_neg c4] at H
    have c4b0 : decide (a1 ≤ a0) = false := decide_eq_false c4
    clear c4
    obtain rfl := Option.some.inj H
    go_enter Tryd.func45, Tryd.ntmps45
    go_wp2
    go_ret
    exact ⟨by first | rfl | (simp; done) | (simp [*]; done), by repeat (first | exact Drawn0.refl _ | apply Drawn0.step)⟩
end Go.Proofs.YtklddfkhbhkhdaaDoor.Q
namespace Go.Proofs.YtklddfkhbhkhdaaDoor.Q
open Go.RowKit Go.Proofs.YtklddfkhbhkhdaaDoorW.PrintWords
def lw (b : ByteArray) : List UInt8 := b.data.toList
def pw (l : List UInt8) : ByteArray := ⟨l.toArray⟩
end Go.Proofs.YtklddfkhbhkhdaaDoor.Q
namespace Go.Proofs.YtklddfkhbhkhdaaDoor.Q
open Go.RowKit Go.Sort Go.Proofs.YtklddfkhbhkhdaaDoorW.PrintWords Go.Proofs.YtklddfkhbhkhdaaDoorW.PrintLast Go.Proofs.YtklddfkhbhkhdaaDoorW.PrintMore
set_option linter.unusedVariables false
theorem reps_scalar {α : Type} (enc : α → Value) (h1 : ∀ x, (enc x).oneCell' = true) (ps : List α) : Reps (fun x cs => cs = [enc x]) 1 ps (ps.map enc) := by
  refine ⟨by simp, fun j p h => ?_⟩
  obtain ⟨hj, rfl⟩ := List.getElem?_eq_some_iff.1 h
  apply List.ext_getElem
  · simp; omega
  · intro i h1 h2
    simp at h1
    have : i = 0 := by omega
    subst this
    simp
theorem R_of_owns {w : World} {e base : Nat} {ok : Nat → Prop} {v : Value} {xs : List ByteArray} (h : w.ownsRow base e 1 v xs.length (xs.map Value.string)) (hok : ∀ k, v.ownBlock = some k → ok k) : Kd.R Kd.string e w base ok v xs :=
  ⟨hok, _, h, reps_scalar Value.string (fun _ => rfl) xs⟩
end Go.Proofs.YtklddfkhbhkhdaaDoor.Q
namespace Go.Proofs.YtklddfkhbhkhdaaDoor.Q
open Go.RowKit Go.Proofs.YtklddfkhbhkhdaaDoorW.PrintWords Go.Proofs.YtklddfkhbhkhdaaDoorW.PrintLast Go.Proofs.YtklddfkhbhkhdaaDoorW.PrintMore
set_option linter.unusedVariables false
theorem lit_strs (w : World) (xs : List ByteArray) (n : Nat) (hn : xs.length = n) (hm : n ≤ 1000) : ∀ W, Below (w.heap.size + 1) (w.alloc (.cells (xs.map Value.string).toArray 9)) W → Kd.C Kd.string W (some ⟨w.heap.size, 0, none⟩) n xs := fun W hW => by
  subst hn
  have o := World.ownsRow_lit (e := 9) (size := 1) w (xs.map Value.string).toArray xs.length (Nat.le_refl _) (by unfold maxLen; omega) (by simp)
  have r : Kd.R Kd.string 9 (w.alloc (.cells (xs.map Value.string).toArray 9)) w.heap.size (fun _ => True) (.slice (some ⟨w.heap.size, 0, none⟩) xs.length xs.length) xs := R_of_owns (by simpa using o) (fun _ _ => trivial)
  have c := (Kd.R_reads' r).2.2
  exact Kd.C_below c (by simpa using hW)
theorem draw_start {w : World} {A0 : Option Addr} {c0 : Nat} {l0 : List Int} (h : Kd.C (Kd.int .u8) w A0 l0.length l0) : IsS48 w (w.alloc (.cells #[.slice A0 l0.length c0, .int .i64 0, .int .u64 0] 48)) w.heap.size l0 0 0 := ⟨A0, c0, heap_alloc_new w _, Nat.le_refl _, h⟩
def zeros (n : Nat) : ByteArray := ⟨(List.replicate n 0).toArray⟩
theorem made_zero (n : Nat) : madeCells #[Value.int .u8 0] n = (List.replicate n (Value.int .u8 0)).toArray := by
  apply Array.ext
  · simp [size_madeCells]
  · intro i h1 h2
    simp [madeCells, Nat.mod_one]
theorem conv_zero (w : World) (n cap : Nat) : (convert 25 9 (.slice (some ⟨w.heap.size, 0, none⟩) n cap)).run Tryd.prog (w.alloc (.cells (madeCells #[.int .u8 0] n) 5)) = .ok (.string (zeros n)) (w.alloc (.cells (madeCells #[.int .u8 0] n) 5)) := by
  have h := run_convert_bytes_back (P := Tryd.prog) (w.alloc (.cells (madeCells #[.int .u8 0] n) 5)) 25 9 5 ⟨w.heap.size, 0, none⟩ cap (List.replicate n 0) Tryd.underlying25 Tryd.underlying5 Tryd.underlying9 (fun j hj => by
    rw [List.length_replicate] at hj
    simp only [List.getElem_replicate]
    have e : (⟨w.heap.size, 0, none⟩ : Addr).add j = ⟨w.heap.size, j, none⟩ := by simp [Addr.add]; omega
    have hh := heap_alloc_new w (.cells (madeCells #[.int .u8 0] n) 5)
    rw [made_zero] at hh ⊢
    rw [e]
    simp only [World.cell?]
    rw [hh]
    simp [hj])
  rw [List.length_replicate] at h
  exact h
theorem make_zero (n : Nat) (hn : n ≤ 5000) : ∀ W : World, (Instr.makeSlice 25 (.int .i64 (n : Int)) (.int .i64 (n : Int))).run Tryd.prog W = .ok (.slice (some ⟨W.heap.size, 0, none⟩) n n) (W.alloc (.cells (madeCells #[.int .u8 0] n) 5)) := fun W =>
  print_make_of (P := Tryd.prog) 25 5 (.int .u8 0) 1 Tryd.underlying25 (by kernel_rfl) rfl (by decide) n (by omega) W
end Go.Proofs.YtklddfkhbhkhdaaDoor.Q
namespace Go.Proofs.YtklddfkhbhkhdaaDoor.Q
open Go.RowKit Go.Proofs.YtklddfkhbhkhdaaDoorW.PrintWords Go.Proofs.YtklddfkhbhkhdaaDoorW.PrintLast Go.Proofs.YtklddfkhbhkhdaaDoorW.PrintMore
set_option linter.unusedVariables false
theorem lit_ints (w : World) (xs : List Int) (n : Nat) (hn : xs.length = n) (hm : n ≤ 1000) : ∀ W, Below (w.heap.size + 1) (w.alloc (.cells (xs.map (Value.int .i64)).toArray 3)) W → Kd.C (Kd.int .i64) W (some ⟨w.heap.size, 0, none⟩) n xs := fun W hW => by
  subst hn
  have o := World.ownsRow_lit (e := 3) (size := 1) w (xs.map (Value.int .i64)).toArray xs.length (Nat.le_refl _) (by unfold maxLen; omega) (by simp)
  have r : Kd.R (Kd.int .i64) 3 (w.alloc (.cells (xs.map (Value.int .i64)).toArray 3)) w.heap.size (fun _ => True) (.slice (some ⟨w.heap.size, 0, none⟩) xs.length xs.length) xs := ⟨fun _ _ => trivial, _, by simp at o; exact o, reps_scalar (Value.int .i64) (fun _ => rfl) xs⟩
  have c := (Kd.R_reads' r).2.2
  exact Kd.C_below c (by simpa using hW)
def fmts (p : Int) : List Int := [0, 1, -1, 10, 999999, -999999, 1000000, -1000000, p]
def prs : List ByteArray := [⟨#[]⟩, ⟨#[45]⟩, ⟨#[45, 48]⟩, ⟨#[48, 48]⟩, ⟨#[48, 49]⟩, ⟨#[45, 45, 49]⟩, ⟨#[49, 120]⟩, ⟨#[57, 57, 57, 57, 57, 57]⟩, ⟨#[49, 48, 48, 48, 48, 48, 48]⟩, ⟨#[45, 57, 57, 57, 57, 57, 57]⟩, ⟨#[49, 56, 52, 52, 54, 55, 52, 52, 48, 55, 51, 55, 48, 57, 53, 53, 49, 54, 49, 55]⟩]
def spec_DrawFormatInt.f (l0 : List Int) : Option Int := (spec_l1Cur_pick.f l0 0 0 1000).bind fun t => if 0 ≤ t.1 ∧ t.1 ≤ 999 then (spec_l1Cur_among.f l0 t.2.1 t.2.2 (fmts (t.1 - 500))).bind fun u => some u.1 else none
set_option maxHeartbeats 1000000 in
theorem spec_DrawFormatInt.calls (A0 : Option Addr) (c0 : Nat) (l0 : List Int) (r : Int) (w : World) (hr0 : Kd.C (Kd.int .u8) w A0 l0.length l0) (hc0 : l0.length ≤ c0) (h : spec_DrawFormatInt.f l0 = some r) :
    Calls Tryd.prog 20 #[.slice A0 l0.length c0] w fun e w' => e = .returned (.int .i64 r) ∧ Below w.heap.size w w' := by
  unfold spec_DrawFormatInt.f at h
  obtain ⟨⟨t1, s1, s2⟩, h1, h⟩ := Option.bind_eq_some_iff.1 h
  simp only at h
  by_cases ht : 0 ≤ t1 ∧ t1 ≤ 999
  case neg => rw [if_neg ht] at h; cases h
  rw [if_pos ht] at h
  obtain ⟨⟨u1, s3, s4⟩, h2, h⟩ := Option.bind_eq_some_iff.1 h
  have h := Option.some.inj h
  simp only at h h2
  subst h
  have HI := Aside0.mk (draw_start (c0 := c0) hr0)
  have HB := Aside0.mk ((Below.refl w.heap.size w).alloc (Nat.le_refl _) (.cells #[.slice A0 l0.length c0, .int .i64 0, .int .u64 0] 48))
  have H1 := Aside0.mk h1
  have H2 := Aside0.mk h2
  have hwr : IntKind.i64.wrap (t1 - 500) = t1 - 500 := by rw [i64_w]; unfold wrap64; omega
  clear h1 h2 hr0 hc0 ht
  go_enter Tryd.func20, Tryd.ntmps20
  go_wp2_with (first
    | (go_at_call 37; refine (spec_l1Cur_pick.calls w.heap.size l0 0 0 1000 t1 s1 s2 w _ HI.out HB.out H1.out).mono ?_; rintro e w1 ⟨rfl, hi, hb, hk⟩; have HI1 := Aside0.mk hi; have HB1 := Aside0.mk hb; have hlt := hi.lt; clear hi hb hk)
    | (go_at_call 44; (have hC := lit_ints w1 (fmts (t1 - 500)) 9 rfl (by omega) _ (by simpa using Below.refl (w1.heap.size + 1) _); refine (spec_l1Cur_among.calls w.heap.size l0 s1 s2 _ 9 (fmts (t1 - 500)) u1 s3 s4 w _ (HI1.out.alloc _) (HB1.out.alloc (by omega) _) hC (Nat.le_refl 9) (fun ad e _ => by cases e; exact fun e => by simp at e; omega) H2.out).mono ?_; rintro e w2 ⟨rfl, hi, hb, hk⟩; have HB2 := Aside0.mk hb; clear hi hb hk hC)))
  go_ret
  exact ⟨rfl, HB2.out⟩
def spec_DrawParseInt.f (k : Nat) (l0 : List Int) : Option ByteArray := (spec_l1Cur_one.f l0 0 0 2).bind fun t => if t.1 = true then ((spec_l1Cur_of.f l0 t.2.1 t.2.2 prs).bind fun u => some u.1) else ((spec_l1Cur_pick.f l0 t.2.1 t.2.2 2000).bind fun u => if 0 ≤ u.1 ∧ u.1 ≤ 1999 then spec_l1Num.f k (u.1 - 1000) else none)
set_option maxHeartbeats 1000000 in
theorem spec_DrawParseInt.calls (k : Nat) (A0 : Option Addr) (c0 : Nat) (l0 : List Int) (r : ByteArray) (w : World) (hr0 : Kd.C (Kd.int .u8) w A0 l0.length l0) (hc0 : l0.length ≤ c0) (h : spec_DrawParseInt.f k l0 = some r) :
    Calls Tryd.prog 23 #[.slice A0 l0.length c0] w fun e w' => e = .returned (.string r) ∧ Below w.heap.size w w' := by
  unfold spec_DrawParseInt.f at h
  obtain ⟨⟨t1, s1, s2⟩, h1, h⟩ := Option.bind_eq_some_iff.1 h
  have HI := Aside0.mk (draw_start (c0 := c0) hr0)
  have HB := Aside0.mk ((Below.refl w.heap.size w).alloc (Nat.le_refl _) (.cells #[.slice A0 l0.length c0, .int .i64 0, .int .u64 0] 48))
  have H1 := Aside0.mk h1
  simp only at h
  clear h1 hr0 hc0
  cases t1 with
  | true =>
    rw [if_pos rfl] at h
    obtain ⟨⟨u1, s3, s4⟩, h2, h⟩ := Option.bind_eq_some_iff.1 h
    have h := Option.some.inj h
    simp only at h
    subst h
    have H2 := Aside0.mk h2
    clear h2
    go_enter Tryd.func23, Tryd.ntmps23
    go_wp2_with (first
      | (go_at_call 38; refine (spec_l1Cur_one.calls w.heap.size l0 0 0 2 true s1 s2 w _ HI.out HB.out H1.out).mono ?_; rintro e w1 ⟨rfl, hi, hb, hk⟩; have HI1 := Aside0.mk hi; have HB1 := Aside0.mk hb; have hlt := hi.lt; clear hi hb hk)
      | (go_at_call 35; have hC := lit_strs w1 prs 11 rfl (by omega) _ (by simpa using Below.refl (w1.heap.size + 1) _); refine (spec_l1Cur_of.calls w.heap.size l0 s1 s2 _ 11 prs u1 s3 s4 w _ (HI1.out.alloc _) (HB1.out.alloc (by omega) _) hC (by decide) (fun ad e _ => by cases e; exact fun e => by simp at e; omega) H2.out).mono ?_; rintro e w2 ⟨rfl, hi, hb, hk⟩; have HB2 := Aside0.mk hb; clear hi hb hk hC))
    go_ret
    exact ⟨rfl, HB2.out⟩
  | false =>
    rw [if_neg (by decide)] at h
    obtain ⟨⟨u1, s3, s4⟩, h2, h⟩ := Option.bind_eq_some_iff.1 h
    simp only at h
    by_cases hu : 0 ≤ u1 ∧ u1 ≤ 1999
    case neg => rw [if_neg hu] at h; cases h
    rw [if_pos hu] at h
    have H2 := Aside0.mk h2
    have H3 := Aside0.mk h
    have hwr : IntKind.i64.wrap (u1 - 1000) = u1 - 1000 := by rw [i64_w]; unfold wrap64; omega
    clear h2 h hu
    go_enter Tryd.func23, Tryd.ntmps23
    go_wp2_with (first
      | (go_at_call 38; refine (spec_l1Cur_one.calls w.heap.size l0 0 0 2 false s1 s2 w _ HI.out HB.out H1.out).mono ?_; rintro e w1 ⟨rfl, hi, hb, hk⟩; have HI1 := Aside0.mk hi; have HB1 := Aside0.mk hb; clear hi hb hk)
      | (go_at_call 37; refine (spec_l1Cur_pick.calls w.heap.size l0 s1 s2 2000 u1 s3 s4 w _ HI1.out HB1.out H2.out).mono ?_; rintro e w2 ⟨rfl, hi, hb, hk⟩; have HB2 := Aside0.mk hb; clear hi hb hk)
      | (go_at_call 48; refine (spec_l1Num.calls k (u1 - 1000) r _ H3.out).mono ?_; rintro e w3 ⟨rfl, hb⟩; have HB3 := Aside0.mk (HB2.out.trans (hb.mono HB2.out.size)); clear hb))
    go_ret
    exact ⟨rfl, HB3.out⟩
def spec_DrawAppendChecksum.f (l0 : List Int) : Option ByteArray := (spec_l1Cur_one.f l0 0 0 20).bind fun t => if t.1 = true then ((spec_l1Cur_pick.f l0 t.2.1 t.2.2 10).bind fun u => if 0 ≤ u.1 ∧ u.1 ≤ 9 then some (zeros (3990 + u.1.toNat)) else none) else ((spec_l1Cur_any1.f l0 t.2.1 t.2.2).bind fun u => some u.1)
set_option maxHeartbeats 1000000 in
theorem spec_DrawAppendChecksum.calls (A0 : Option Addr) (c0 : Nat) (l0 : List Int) (r : ByteArray) (w : World) (hr0 : Kd.C (Kd.int .u8) w A0 l0.length l0) (hc0 : l0.length ≤ c0) (h : spec_DrawAppendChecksum.f l0 = some r) :
    Calls Tryd.prog 26 #[.slice A0 l0.length c0] w fun e w' => e = .returned (.string r) ∧ Below w.heap.size w w' := by
  unfold spec_DrawAppendChecksum.f at h
  obtain ⟨⟨t1, s1, s2⟩, h1, h⟩ := Option.bind_eq_some_iff.1 h
  have HI := Aside0.mk (draw_start (c0 := c0) hr0)
  have HB := Aside0.mk ((Below.refl w.heap.size w).alloc (Nat.le_refl _) (.cells #[.slice A0 l0.length c0, .int .i64 0, .int .u64 0] 48))
  have H1 := Aside0.mk h1
  simp only at h
  clear h1 hr0 hc0
  cases t1 with
  | false =>
    rw [if_neg (by decide)] at h
    obtain ⟨⟨u1, s3, s4⟩, h2, h⟩ := Option.bind_eq_some_iff.1 h
    have h := Option.some.inj h
    simp only at h
    subst h
    have H2 := Aside0.mk h2
    clear h2
    go_enter Tryd.func26, Tryd.ntmps26
    go_wp2_with (first
      | (go_at_call 38; refine (spec_l1Cur_one.calls w.heap.size l0 0 0 20 false s1 s2 w _ HI.out HB.out H1.out).mono ?_; rintro e w1 ⟨rfl, hi, hb, hk⟩; have HI1 := Aside0.mk hi; have HB1 := Aside0.mk hb; clear hi hb hk)
      | (go_at_call 34; refine (spec_l1Cur_any1.calls w.heap.size l0 s1 s2 u1 s3 s4 w _ HI1.out HB1.out H2.out).mono ?_; rintro e w2 ⟨rfl, hi, hb, hk⟩; have HB2 := Aside0.mk hb; clear hi hb hk))
    go_ret
    exact ⟨rfl, HB2.out⟩
  | true =>
    rw [if_pos rfl] at h
    obtain ⟨⟨u1, s3, s4⟩, h2, h⟩ := Option.bind_eq_some_iff.1 h
    simp only at h
    by_cases hu : 0 ≤ u1 ∧ u1 ≤ 9
    case neg => rw [if_neg hu] at h; cases h
    rw [if_pos hu] at h
    have h := Option.some.inj h
    obtain ⟨q, rfl⟩ : ∃ q : Nat, u1 = (q : Int) := ⟨u1.toNat, by omega⟩
    rw [Int.toNat_natCast] at h
    have H2 := Aside0.mk h2
    have hwr : IntKind.i64.wrap (3990 + (q : Int)) = 3990 + (q : Int) := by rw [i64_w]; unfold wrap64; omega
    have hmk : ∀ W : World, (Instr.makeSlice 25 (.int .i64 (3990 + (q : Int))) (.int .i64 (3990 + (q : Int)))).run Tryd.prog W = .ok (.slice (some ⟨W.heap.size, 0, none⟩) (3990 + q) (3990 + q)) (W.alloc (.cells (madeCells #[.int .u8 0] (3990 + q)) 5)) := fun W => by rw [show (3990 + (q : Int)) = ((3990 + q : Nat) : Int) by omega]; exact make_zero (3990 + q) (by omega) W
    have hcv := fun W => conv_zero W (3990 + q) (3990 + q)
    rw [h] at hcv
    clear h2 h hu
    go_enter Tryd.func26, Tryd.ntmps26
    go_wp2_with (first
      | (go_at_call 38; refine (spec_l1Cur_one.calls w.heap.size l0 0 0 20 true s1 s2 w _ HI.out HB.out H1.out).mono ?_; rintro e w1 ⟨rfl, hi, hb, hk⟩; have HI1 := Aside0.mk hi; have HB1 := Aside0.mk hb; clear hi hb hk)
      | (go_at_call 37; refine (spec_l1Cur_pick.calls w.heap.size l0 s1 s2 10 (q : Int) s3 s4 w _ HI1.out HB1.out H2.out).mono ?_; rintro e w2 ⟨rfl, hi, hb, hk⟩; have HB2 := Aside0.mk hb; clear hi hb hk))
    go_ret
    exact ⟨rfl, HB2.out.alloc HB2.out.size _⟩
end Go.Proofs.YtklddfkhbhkhdaaDoor.Q
namespace Go.Proofs.YtklddfkhbhkhdaaDoor.Q
open Go.RowKit Go.Proofs.YtklddfkhbhkhdaaDoorW.PrintWords Go.Proofs.YtklddfkhbhkhdaaDoorW.PrintLast
def Tab (w : World) : Prop := Lib.TabIs Tryd.prog w "internal/strconv.uint64pow10" .u64 Lib.pow10Tab
theorem gPow : Tryd.prog.globalNamed "internal/strconv.uint64pow10" = some 3 := by kernel_rfl
theorem Tab.below {w w' : World} (h : Tab w) (hb : Below w.heap.size w w') : Tab w' := Joins.var_stays gPow h hb (Nat.le_refl _)
def MaxIs (w : World) : Prop := ∃ m : Int, w.cell? ⟨0, 0, none⟩ = some (.int .i64 m)
theorem MaxIs.below {w w' : World} (h : MaxIs w) (hb : Below w.heap.size w w') : MaxIs w' := by
  obtain ⟨m, hm⟩ := h
  exact ⟨m, (hb.cell (p := ⟨0, 0, none⟩) (World.block_lt_of_cell? w _ hm)).trans hm⟩
end Go.Proofs.YtklddfkhbhkhdaaDoor.Q
namespace Go.Proofs
open Go.Shelf
def Tryd.lItoa_ren : Go.Shelf.Ren := ⟨fun | 171 => 46 | 243 => 63 | 246 => 76 | 283 => 101 | 284 => 102 | 285 => 103 | 286 => 104 | 129 => 121 | 317 => 120 | 318 => 122 | 319 => 123 | 320 => 124 | 337 => 135 | 338 => 136 | n => n, fun | 3 => 3 | 9 => 9 | 2 => 2 | 4 => 4 | 171 => 121 | 0 => 0 | 53 => 46 | 37 => 25 | 5 => 5 | 173 => 124 | 212 => 151 | 51 => 84 | 20 => 20 | 213 => 152 | 46 => 79 | 232 => 187 | 233 => 188 | n => n, fun | 17 => 3 | 18 => 6 | 19 => 7 | n => n⟩
theorem Tryd.lItoa : Go.Proofs.LaysM.n171 Tryd.prog Tryd.lItoa_ren := {
  mixed := by kernel_rfl
  f129 := Tryd.func121.trans (congrArg some (by kernel_rfl))
  f171 := Tryd.func46.trans (congrArg some (by kernel_rfl))
  f243 := Tryd.func63.trans (congrArg some (by kernel_rfl))
  f246 := Tryd.func76.trans (congrArg some (by kernel_rfl))
  f283 := Tryd.func101.trans (congrArg some (by kernel_rfl))
  f284 := Tryd.func102.trans (congrArg some (by kernel_rfl))
  f285 := Tryd.func103.trans (congrArg some (by kernel_rfl))
  f286 := Tryd.func104.trans (congrArg some (by kernel_rfl))
  f317 := Tryd.func120.trans (congrArg some (by kernel_rfl))
  f318 := Tryd.func122.trans (congrArg some (by kernel_rfl))
  f319 := Tryd.func123.trans (congrArg some (by kernel_rfl))
  f320 := Tryd.func124.trans (congrArg some (by kernel_rfl))
  f337 := Tryd.func135.trans (congrArg some (by kernel_rfl))
  f338 := Tryd.func136.trans (congrArg some (by kernel_rfl))
  t0 := Tryd.underlying0
  a0 := Tryd.isAgg0
  z0 := Tryd.sizeOf0
  v0 := Tryd.zeroValue0
  t2 := Tryd.underlying2
  a2 := Tryd.isAgg2
  z2 := Tryd.sizeOf2
  v2 := Tryd.zeroValue2
  t3 := Tryd.underlying3
  a3 := Tryd.isAgg3
  z3 := Tryd.sizeOf3
  v3 := Tryd.zeroValue3
  t4 := Tryd.underlying4
  a4 := Tryd.isAgg4
  z4 := Tryd.sizeOf4
  v4 := Tryd.zeroValue4
  t5 := Tryd.underlying5
  a5 := Tryd.isAgg5
  z5 := Tryd.sizeOf5
  v5 := Tryd.zeroValue5
  t9 := Tryd.underlying9
  a9 := Tryd.isAgg9
  z9 := Tryd.sizeOf9
  v9 := Tryd.zeroValue9
  t20 := Tryd.underlying20
  a20 := Tryd.isAgg20
  z20 := Tryd.sizeOf20
  v20 := Tryd.zeroValue20
  t37 := Tryd.underlying25
  a37 := Tryd.isAgg25
  z37 := Tryd.sizeOf25
  v37 := Tryd.zeroValue25
  t46 := Tryd.underlying79
  a46 := Tryd.isAgg79
  z46 := Tryd.sizeOf79
  v46 := Tryd.zeroValue79
  t51 := Tryd.underlying84
  a51 := Tryd.isAgg84
  z51 := Tryd.sizeOf84
  v51 := Tryd.zeroValue84
  t53 := Tryd.underlying46
  a53 := Tryd.isAgg46
  z53 := Tryd.sizeOf46
  v53 := Tryd.zeroValue46
  t171 := Tryd.underlying121
  a171 := Tryd.isAgg121
  z171 := Tryd.sizeOf121
  v171 := Tryd.zeroValue121
  t173 := Tryd.underlying124
  a173 := Tryd.isAgg124
  z173 := Tryd.sizeOf124
  v173 := Tryd.zeroValue124
  t212 := Tryd.underlying151
  a212 := Tryd.isAgg151
  z212 := Tryd.sizeOf151
  v212 := Tryd.zeroValue151
  t213 := Tryd.underlying152
  a213 := Tryd.isAgg152
  z213 := Tryd.sizeOf152
  t232 := Tryd.underlying187
  a232 := Tryd.isAgg187
  z232 := Tryd.sizeOf187
  v232 := Tryd.zeroValue187
  t233 := Tryd.underlying188
  a233 := Tryd.isAgg188
  z233 := Tryd.sizeOf188
  v233 := Tryd.zeroValue188
  g17 := by kernel_rfl
  g18 := by kernel_rfl
  g19 := by kernel_rfl
  i0 := by kernel_rfl
  i2 := by kernel_rfl
  i3 := by kernel_rfl
  i4 := by kernel_rfl
  i5 := by kernel_rfl
  i9 := by kernel_rfl
  i20 := by kernel_rfl
  i37 := by kernel_rfl
  i46 := by kernel_rfl
  i51 := by kernel_rfl
  i53 := by kernel_rfl
  i171 := by kernel_rfl
  i173 := by kernel_rfl
  i212 := by kernel_rfl
  i232 := by kernel_rfl
  i233 := by kernel_rfl
  m17 := by kernel_rfl
  m18 := by kernel_rfl
  m19 := by kernel_rfl }
end Go.Proofs
namespace Go.Proofs.YtklddfkhbhkhdaaDoor.Q
open Go.RowKit Go.Shelf Go.Proofs.YtklddfkhbhkhdaaDoorW.PrintWords Go.Proofs.YtklddfkhbhkhdaaDoorW.PrintLast Go.Proofs.YtklddfkhbhkhdaaDoorW.PrintMore
def itoaB (n : Int) : ByteArray := ⟨(Lib.itoa n).toArray⟩
def strconv_Itoa.f (a0 : Int) : Option ByteArray := if -9223372036854775808 ≤ a0 ∧ a0 ≤ 9223372036854775807 then some (itoaB a0) else none
theorem strconv_Itoa.calls (a0 : Int) (r : ByteArray) (w : World) (h : strconv_Itoa.f a0 = some r) (hG_Tab : Tab w) :
    Calls Tryd.prog 46 #[.int .i64 a0] w fun e w' => e = .returned (.string r) ∧ Below w.heap.size w w' := by
  unfold strconv_Itoa.f at h
  split at h
  case isFalse => cases h
  rename_i hn
  obtain rfl := Option.some.inj h
  refine (Any.strconv_Itoa Tryd.lItoa a0 hn.1 hn.2 w hG_Tab).mono ?_
  rintro e w' ⟨rfl, k, os, rfl⟩
  exact ⟨rfl, Lib.below_grow _ w (Nat.le_refl _) k os⟩
end Go.Proofs.YtklddfkhbhkhdaaDoor.Q
namespace Go.Proofs.YtklddfkhbhkhdaaDoor.Q
open Go.RowKit Go.Proofs.YtklddfkhbhkhdaaDoorW.PrintWords Go.Proofs.YtklddfkhbhkhdaaDoorW.PrintLast
def Errs (w : World) : Prop := (∃ tp p, w.var? Tryd.prog "strconv.ErrSyntax" = some #[.iface tp p]) ∧ (∃ tp p, w.var? Tryd.prog "strconv.ErrRange" = some #[.iface tp p])
theorem gSyn : Tryd.prog.globalNamed "strconv.ErrSyntax" = some 1 := by kernel_rfl
theorem gRng : Tryd.prog.globalNamed "strconv.ErrRange" = some 2 := by kernel_rfl
theorem Errs.below {w w' : World} (h : Errs w) (hb : Below w.heap.size w w') : Errs w' := by
  obtain ⟨⟨t1, p1, h1⟩, t2, p2, h2⟩ := h
  exact ⟨⟨t1, p1, Joins.var_stays gSyn h1 hb (Nat.le_refl _)⟩, t2, p2, Joins.var_stays gRng h2 hb (Nat.le_refl _)⟩
end Go.Proofs.YtklddfkhbhkhdaaDoor.Q
namespace Go.Proofs
open Go.Shelf
def Tryd.lAtoi_ren : Go.Shelf.Ren := ⟨fun | 172 => 49 | 244 => 64 | 245 => 65 | 247 => 77 | 279 => 78 | 280 => 79 | 281 => 80 | 282 => 81 | 287 => 105 | 316 => 106 | 171 => 46 | 205 => 107 | 321 => 125 | 322 => 126 | 243 => 63 | 246 => 76 | 283 => 101 | 284 => 102 | 285 => 103 | 286 => 104 | 129 => 121 | 317 => 120 | 318 => 122 | 319 => 123 | 320 => 124 | 337 => 135 | 338 => 136 | n => n, fun | 9 => 9 | 3 => 3 | 75 => 60 | 76 => 61 | 4 => 4 | 5 => 5 | 167 => 99 | 37 => 25 | 0 => 0 | 85 => 100 | 2 => 2 | 168 => 102 | 53 => 46 | 175 => 126 | 46 => 79 | 210 => 129 | 127 => 80 | 145 => 157 | 143 => 155 | 21 => 21 | 171 => 121 | 173 => 124 | 212 => 151 | 51 => 84 | 20 => 20 | 213 => 152 | 232 => 187 | 233 => 188 | 80 => 49 | n => n, fun | 15 => 1 | 16 => 2 | 17 => 3 | 18 => 6 | 19 => 7 | n => n⟩
theorem Tryd.lAtoi : Go.Proofs.LaysC.n172 Tryd.prog Tryd.lAtoi_ren := {
  mixed := by kernel_rfl
  f129 := Tryd.func121.trans (congrArg some (by kernel_rfl))
  f171 := Tryd.func46.trans (congrArg some (by kernel_rfl))
  f172 := Tryd.func49.trans (congrArg some (by kernel_rfl))
  f205 := Tryd.func107.trans (congrArg some (by kernel_rfl))
  f243 := Tryd.func63.trans (congrArg some (by kernel_rfl))
  f244 := Tryd.func64.trans (congrArg some (by kernel_rfl))
  f245 := Tryd.func65.trans (congrArg some (by kernel_rfl))
  f246 := Tryd.func76.trans (congrArg some (by kernel_rfl))
  f247 := Tryd.func77.trans (congrArg some (by kernel_rfl))
  f279 := Tryd.func78.trans (congrArg some (by kernel_rfl))
  f280 := Tryd.func79.trans (congrArg some (by kernel_rfl))
  f281 := Tryd.func80.trans (congrArg some (by kernel_rfl))
  f282 := Tryd.func81.trans (congrArg some (by kernel_rfl))
  f283 := Tryd.func101.trans (congrArg some (by kernel_rfl))
  f284 := Tryd.func102.trans (congrArg some (by kernel_rfl))
  f285 := Tryd.func103.trans (congrArg some (by kernel_rfl))
  f286 := Tryd.func104.trans (congrArg some (by kernel_rfl))
  f287 := Tryd.func105.trans (congrArg some (by kernel_rfl))
  f316 := Tryd.func106.trans (congrArg some (by kernel_rfl))
  f317 := Tryd.func120.trans (congrArg some (by kernel_rfl))
  f318 := Tryd.func122.trans (congrArg some (by kernel_rfl))
  f319 := Tryd.func123.trans (congrArg some (by kernel_rfl))
  f320 := Tryd.func124.trans (congrArg some (by kernel_rfl))
  f321 := Tryd.func125.trans (congrArg some (by kernel_rfl))
  f322 := Tryd.func126.trans (congrArg some (by kernel_rfl))
  f337 := Tryd.func135.trans (congrArg some (by kernel_rfl))
  f338 := Tryd.func136.trans (congrArg some (by kernel_rfl))
  t0 := Tryd.underlying0
  a0 := Tryd.isAgg0
  z0 := Tryd.sizeOf0
  v0 := Tryd.zeroValue0
  t2 := Tryd.underlying2
  a2 := Tryd.isAgg2
  z2 := Tryd.sizeOf2
  v2 := Tryd.zeroValue2
  t3 := Tryd.underlying3
  a3 := Tryd.isAgg3
  z3 := Tryd.sizeOf3
  v3 := Tryd.zeroValue3
  t4 := Tryd.underlying4
  a4 := Tryd.isAgg4
  z4 := Tryd.sizeOf4
  v4 := Tryd.zeroValue4
  t5 := Tryd.underlying5
  a5 := Tryd.isAgg5
  z5 := Tryd.sizeOf5
  v5 := Tryd.zeroValue5
  t9 := Tryd.underlying9
  a9 := Tryd.isAgg9
  z9 := Tryd.sizeOf9
  v9 := Tryd.zeroValue9
  t20 := Tryd.underlying20
  a20 := Tryd.isAgg20
  z20 := Tryd.sizeOf20
  v20 := Tryd.zeroValue20
  t21 := Tryd.underlying21
  a21 := Tryd.isAgg21
  z21 := Tryd.sizeOf21
  v21 := Tryd.zeroValue21
  t37 := Tryd.underlying25
  a37 := Tryd.isAgg25
  z37 := Tryd.sizeOf25
  v37 := Tryd.zeroValue25
  t46 := Tryd.underlying79
  a46 := Tryd.isAgg79
  z46 := Tryd.sizeOf79
  v46 := Tryd.zeroValue79
  t51 := Tryd.underlying84
  a51 := Tryd.isAgg84
  z51 := Tryd.sizeOf84
  v51 := Tryd.zeroValue84
  t53 := Tryd.underlying46
  a53 := Tryd.isAgg46
  z53 := Tryd.sizeOf46
  v53 := Tryd.zeroValue46
  t75 := Tryd.underlying60
  a75 := Tryd.isAgg60
  z75 := Tryd.sizeOf60
  v75 := Tryd.zeroValue60
  t76 := Tryd.underlying61
  a76 := Tryd.isAgg61
  z76 := Tryd.sizeOf61
  v76 := Tryd.zeroValue61
  t85 := Tryd.underlying100
  a85 := Tryd.isAgg100
  z85 := Tryd.sizeOf100
  v85 := Tryd.zeroValue100
  t127 := Tryd.underlying80
  a127 := Tryd.isAgg80
  z127 := Tryd.sizeOf80
  v127 := Tryd.zeroValue80
  t143 := Tryd.underlying155
  a143 := Tryd.isAgg155
  z143 := Tryd.sizeOf155
  v143 := Tryd.zeroValue155
  t145 := Tryd.underlying157
  a145 := Tryd.isAgg157
  z145 := Tryd.sizeOf157
  v145 := Tryd.zeroValue157
  t167 := Tryd.underlying99
  a167 := Tryd.isAgg99
  z167 := Tryd.sizeOf99
  v167 := Tryd.zeroValue99
  t168 := Tryd.underlying102
  a168 := Tryd.isAgg102
  z168 := Tryd.sizeOf102
  v168 := Tryd.zeroValue102
  t171 := Tryd.underlying121
  a171 := Tryd.isAgg121
  z171 := Tryd.sizeOf121
  v171 := Tryd.zeroValue121
  t173 := Tryd.underlying124
  a173 := Tryd.isAgg124
  z173 := Tryd.sizeOf124
  v173 := Tryd.zeroValue124
  t175 := Tryd.underlying126
  a175 := Tryd.isAgg126
  z175 := Tryd.sizeOf126
  v175 := Tryd.zeroValue126
  t210 := Tryd.underlying129
  a210 := Tryd.isAgg129
  z210 := Tryd.sizeOf129
  v210 := Tryd.zeroValue129
  t212 := Tryd.underlying151
  a212 := Tryd.isAgg151
  z212 := Tryd.sizeOf151
  v212 := Tryd.zeroValue151
  t213 := Tryd.underlying152
  a213 := Tryd.isAgg152
  z213 := Tryd.sizeOf152
  t232 := Tryd.underlying187
  a232 := Tryd.isAgg187
  z232 := Tryd.sizeOf187
  v232 := Tryd.zeroValue187
  t233 := Tryd.underlying188
  a233 := Tryd.isAgg188
  z233 := Tryd.sizeOf188
  v233 := Tryd.zeroValue188
  g15 := by kernel_rfl
  g16 := by kernel_rfl
  g17 := by kernel_rfl
  g18 := by kernel_rfl
  g19 := by kernel_rfl
  t80 := Tryd.underlying49
  a80 := Tryd.isAgg49
  z80 := Tryd.sizeOf49
  v80 := Tryd.zeroValue49
  i0 := by kernel_rfl
  i2 := by kernel_rfl
  i3 := by kernel_rfl
  i4 := by kernel_rfl
  i5 := by kernel_rfl
  i9 := by kernel_rfl
  i20 := by kernel_rfl
  i21 := by kernel_rfl
  i37 := by kernel_rfl
  i46 := by kernel_rfl
  i51 := by kernel_rfl
  i53 := by kernel_rfl
  i75 := by kernel_rfl
  i76 := by kernel_rfl
  i80 := by kernel_rfl
  i85 := by kernel_rfl
  i127 := by kernel_rfl
  i143 := by kernel_rfl
  i145 := by kernel_rfl
  i167 := by kernel_rfl
  i168 := by kernel_rfl
  i171 := by kernel_rfl
  i173 := by kernel_rfl
  i175 := by kernel_rfl
  i210 := by kernel_rfl
  i212 := by kernel_rfl
  i232 := by kernel_rfl
  i233 := by kernel_rfl
  m15 := by kernel_rfl
  m16 := by kernel_rfl
  m17 := by kernel_rfl
  m18 := by kernel_rfl
  m19 := by kernel_rfl
  c0 := by kernel_rfl
  c2 := by kernel_rfl
  c3 := by kernel_rfl
  c4 := by kernel_rfl
  c5 := by kernel_rfl
  c9 := by kernel_rfl
  c20 := by kernel_rfl
  c21 := by kernel_rfl
  c37 := by kernel_rfl
  c46 := by kernel_rfl
  c51 := by kernel_rfl
  c53 := by kernel_rfl
  c75 := by kernel_rfl
  c76 := by kernel_rfl
  c80 := by kernel_rfl
  c85 := by kernel_rfl
  c127 := by kernel_rfl
  c143 := by kernel_rfl
  c145 := by kernel_rfl
  c167 := by kernel_rfl
  c168 := by kernel_rfl
  c171 := by kernel_rfl
  c173 := by kernel_rfl
  c175 := by kernel_rfl
  c210 := by kernel_rfl
  c212 := by kernel_rfl
  c213 := by kernel_rfl
  c232 := by kernel_rfl
  c233 := by kernel_rfl }
end Go.Proofs
namespace Go.Proofs.YtklddfkhbhkhdaaDoor.Q
open Go.RowKit Go.Shelf Go.Proofs.YtklddfkhbhkhdaaDoorW.PrintWords Go.Proofs.YtklddfkhbhkhdaaDoorW.PrintLast Go.Proofs.YtklddfkhbhkhdaaDoorW.PrintMore
set_option linter.unusedVariables false
def parseV (s : ByteArray) : Int × Bool := match Lib.atoiAll s.data.toList with
  | .ok v => if (itoaB v).toList = s.toList ∧ -999999 ≤ v ∧ v ≤ 999999 then (v, true) else (0, false)
  | _ => (0, false)
def impl_ParseInt.f (a0 : ByteArray) : Option (Int × Bool) := if a0.size ≤ 281474976710656 then some (parseV a0) else none
theorem impl_in_val (a b c : Int) : impl_in.f a b c = some (decide (b ≤ a ∧ a ≤ c)) := by
  unfold impl_in.f
  split
  · congr 1; rw [decide_eq_decide]; omega
  · congr 1; rw [eq_comm, decide_eq_false_iff_not]; omega
set_option maxHeartbeats 2000000 in
theorem impl_ParseInt.calls (a0 : ByteArray) (r1 : Int) (r2 : Bool) (w : World) (h : impl_ParseInt.f a0 = some (r1, r2)) (hG_Tab : Tab w) (hG_Errs : Errs w) :
    Calls Tryd.prog 24 #[.string a0] w fun e w' => e = .returned (.tuple #[.int .i64 r1, .bool r2]) ∧ Below w.heap.size w w' := by
  unfold impl_ParseInt.f at h
  split at h
  case isFalse => cases h
  rename_i hs
  have h := Option.some.inj h
  obtain ⟨⟨t1, p1, e1⟩, t2, p2, e2⟩ := hG_Errs
  cases ha : Lib.atoiAll a0.data.toList with
  | ok v =>
    obtain ⟨b0, b1⟩ := Lib.atoiAll_bounds ha
    have hA := Aside0.mk (Any.strconv_Atoi_ok Tryd.lAtoi a0 (by omega) v ha w)
    have HT := Aside0.mk hG_Tab
    have HV := Aside0.mk (show strconv_Itoa.f v = some (itoaB v) by unfold strconv_Itoa.f; rw [if_pos ⟨b0, b1⟩])
    have HI := Aside0.mk (impl_in_val v (-999999) 999999)
    have hp : parseV a0 = if (itoaB v).toList = a0.toList ∧ -999999 ≤ v ∧ v ≤ 999999 then (v, true) else (0, false) := by unfold parseV; rw [ha]
    rw [hp] at h
    generalize itoaB v = tv at HV h
    clear e1 e2 hG_Tab ha hp
    by_cases h1 : tv.toList = a0.toList
    · have h1b : (tv.toList == a0.toList) = true := beq_iff_eq.2 h1
      have h1c : (tv.toList != a0.toList) = false := bne_eq_false_iff_eq.2 h1
      by_cases h2 : -999999 ≤ v ∧ v ≤ 999999
      · rw [if_pos ⟨h1, h2⟩] at h
        injection h with q1 q2
        subst q1; subst q2
        rw [decide_eq_true h2] at HI
        clear h1 h2
        go_enter Tryd.func24, Tryd.ntmps24
        go_wp2_with (first
          | (go_at_call 49; refine hA.out.mono ?_; rintro e w1 ⟨rfl, hw⟩; have HB := Aside0.mk (show Below w.heap.size w w1 by rcases hw with rfl | ⟨t, rfl⟩ <;> first | exact Below.refl _ _ | exact Lib.bytesWorld_below _ _ _); clear hw)
          | (go_at_call 46; refine (strconv_Itoa.calls v tv _ HV.out (HT.out.below HB.out)).mono ?_; rintro e w2 ⟨rfl, hb⟩; have HB2 := Aside0.mk (HB.out.trans (hb.mono HB.out.size)); clear hb)
          | (go_at_call 45; refine (impl_in.calls v (-999999) 999999 true _ HI.out).mono ?_; rintro e w3 ⟨rfl, ⟨nd, rfl⟩⟩))
        go_ret2
        first | exact ⟨rfl, HB2.out⟩ | exact ⟨rfl, below_drewN HB2.out _⟩
      · rw [if_neg (fun q => h2 q.2)] at h
        injection h with q1 q2
        subst q1; subst q2
        rw [decide_eq_false h2] at HI
        clear h1 h2
        go_enter Tryd.func24, Tryd.ntmps24
        go_wp2_with (first
          | (go_at_call 49; refine hA.out.mono ?_; rintro e w1 ⟨rfl, hw⟩; have HB := Aside0.mk (show Below w.heap.size w w1 by rcases hw with rfl | ⟨t, rfl⟩ <;> first | exact Below.refl _ _ | exact Lib.bytesWorld_below _ _ _); clear hw)
          | (go_at_call 46; refine (strconv_Itoa.calls v tv _ HV.out (HT.out.below HB.out)).mono ?_; rintro e w2 ⟨rfl, hb⟩; have HB2 := Aside0.mk (HB.out.trans (hb.mono HB.out.size)); clear hb)
          | (go_at_call 45; refine (impl_in.calls v (-999999) 999999 false _ HI.out).mono ?_; rintro e w3 ⟨rfl, ⟨nd, rfl⟩⟩))
        go_ret2
        first | exact ⟨rfl, HB2.out⟩ | exact ⟨rfl, below_drewN HB2.out _⟩
    · rw [if_neg (fun q => h1 q.1)] at h
      injection h with q1 q2
      subst q1; subst q2
      have h1b : (tv.toList == a0.toList) = false := beq_eq_false_iff_ne.2 h1
      have h1c : (tv.toList != a0.toList) = true := bne_iff_ne.2 h1
      clear h1
      go_enter Tryd.func24, Tryd.ntmps24
      go_wp2_with (first
        | (go_at_call 49; refine hA.out.mono ?_; rintro e w1 ⟨rfl, hw⟩; have HB := Aside0.mk (show Below w.heap.size w w1 by rcases hw with rfl | ⟨t, rfl⟩ <;> first | exact Below.refl _ _ | exact Lib.bytesWorld_below _ _ _); clear hw)
        | (go_at_call 46; refine (strconv_Itoa.calls v tv _ HV.out (HT.out.below HB.out)).mono ?_; rintro e w2 ⟨rfl, hb⟩; have HB2 := Aside0.mk (HB.out.trans (hb.mono HB.out.size)); clear hb))
      go_ret2
      first | exact ⟨rfl, HB2.out⟩ | exact ⟨rfl, below_drewN HB2.out _⟩
  | «syntax» =>
    have hp : parseV a0 = (0, false) := by unfold parseV; rw [ha]
    rw [hp] at h
    injection h with q1 q2
    subst q1; subst q2
    have hA := Aside0.mk (Any.strconv_Atoi_syntax_var Tryd.lAtoi a0 hs ha t1 p1 w e1)
    clear e1 e2 hG_Tab ha hp
    go_enter Tryd.func24, Tryd.ntmps24
    go_wp2_with (go_at_call 49; refine hA.out.mono ?_; rintro e w1 ⟨N, rfl, -, -, hb⟩; have HB := Aside0.mk hb; clear hb)
    go_ret2
    exact ⟨rfl, HB.out⟩
  | range =>
    have hp : parseV a0 = (0, false) := by unfold parseV; rw [ha]
    rw [hp] at h
    injection h with q1 q2
    subst q1; subst q2
    have hA := Aside0.mk (Any.strconv_Atoi_range_var Tryd.lAtoi a0 hs ha t2 p2 w e2)
    clear e1 e2 hG_Tab ha hp
    go_enter Tryd.func24, Tryd.ntmps24
    go_wp2_with (go_at_call 49; refine hA.out.mono ?_; rintro e w1 ⟨N, rfl, -, -, hb⟩; have HB := Aside0.mk hb; clear hb)
    go_ret2
    exact ⟨rfl, HB.out⟩
end Go.Proofs.YtklddfkhbhkhdaaDoor.Q
namespace Go.Proofs
open Go.Shelf
def Tryd.lContains_ren : Go.Shelf.Ren := ⟨fun | 144 => 39 | 143 => 57 | 219 => 71 | 217 => 92 | 225 => 93 | 224 => 94 | 267 => 95 | 266 => 112 | 314 => 113 | n => n, fun | 9 => 9 | 4 => 4 | 3 => 3 | 5 => 5 | 46 => 79 | 146 => 133 | 51 => 84 | n => n, fun | 1 => 0 | n => n⟩
theorem Tryd.lContains : Go.Proofs.Lays.n144 Tryd.prog Tryd.lContains_ren := {
  mixed := by kernel_rfl
  f143 := Tryd.func57.trans (congrArg some (by kernel_rfl))
  f144 := Tryd.func39.trans (congrArg some (by kernel_rfl))
  f217 := Tryd.func92.trans (congrArg some (by kernel_rfl))
  f219 := Tryd.func71.trans (congrArg some (by kernel_rfl))
  f224 := Tryd.func94.trans (congrArg some (by kernel_rfl))
  f225 := Tryd.func93.trans (congrArg some (by kernel_rfl))
  f266 := Tryd.func112.trans (congrArg some (by kernel_rfl))
  f267 := Tryd.func95.trans (congrArg some (by kernel_rfl))
  f314 := Tryd.func113.trans (congrArg some (by kernel_rfl))
  t3 := Tryd.underlying3
  a3 := Tryd.isAgg3
  z3 := Tryd.sizeOf3
  v3 := Tryd.zeroValue3
  t4 := Tryd.underlying4
  a4 := Tryd.isAgg4
  z4 := Tryd.sizeOf4
  v4 := Tryd.zeroValue4
  t5 := Tryd.underlying5
  a5 := Tryd.isAgg5
  z5 := Tryd.sizeOf5
  v5 := Tryd.zeroValue5
  t9 := Tryd.underlying9
  a9 := Tryd.isAgg9
  z9 := Tryd.sizeOf9
  v9 := Tryd.zeroValue9
  t46 := Tryd.underlying79
  a46 := Tryd.isAgg79
  z46 := Tryd.sizeOf79
  v46 := Tryd.zeroValue79
  t51 := Tryd.underlying84
  a51 := Tryd.isAgg84
  z51 := Tryd.sizeOf84
  v51 := Tryd.zeroValue84
  t146 := Tryd.underlying133
  a146 := Tryd.isAgg133
  z146 := Tryd.sizeOf133
  v146 := Tryd.zeroValue133
  g1 := by kernel_rfl }
end Go.Proofs
namespace Go.Proofs.YtklddfkhbhkhdaaDoor.Q
open Go.RowKit Go.Shelf Go.Proofs.YtklddfkhbhkhdaaDoorW.PrintWords Go.Proofs.YtklddfkhbhkhdaaDoorW.PrintLast Go.Proofs.YtklddfkhbhkhdaaDoorW.PrintMore
def strings_Contains.f (a0 a1 : ByteArray) : Option Bool := match a1.data.toList with
  | [c] => some (decide (0 ≤ Lib.indexByte a0.data.toList c))
  | _ => none
theorem strings_Contains.calls (a0 a1 : ByteArray) (r : Bool) (w : World) (h : strings_Contains.f a0 a1 = some r) :
    Calls Tryd.prog 39 #[.string a0, .string a1] w fun e w' => e = .returned (.bool r) ∧ Below w.heap.size w w' := by
  unfold strings_Contains.f at h
  split at h
  case h_2 => cases h
  rename_i c hc
  obtain rfl := Option.some.inj h
  obtain ⟨⟨l⟩⟩ := a1
  simp only at hc
  subst hc
  refine (Any.strings_Contains_one Tryd.lContains a0 c w).mono ?_
  rintro e w' ⟨rfl, rfl⟩
  exact ⟨rfl, Below.refl _ _⟩
end Go.Proofs.YtklddfkhbhkhdaaDoor.Q
namespace Go.Proofs.YtklddfkhbhkhdaaDoor.Q
open Go.RowKit Go.Proofs.YtklddfkhbhkhdaaDoorW.PrintWords Go.Proofs.YtklddfkhbhkhdaaDoorW.PrintLast Go.Proofs.YtklddfkhbhkhdaaDoorW.PrintMore
attribute [local go_sem] run_field_156 run_field_157 isSome_setCell max2_int min2_int max_two min_two max_three min_three max_four min_four   -- for this text's walks alone
set_option linter.unusedVariables false
set_option linter.unusedSimpArgs false
def impl_checksum.l0 : Nat → ByteArray → Int → Int → Int → Option (Int)
  | 0, _, _, _, _ => none
  | k + 1, x0, x3, x6, x7 => if x7 < x6 then (if 0 ≤ x7 then (if x7 < (x0.size : Int) then (impl_checksum.l0 k x0 (Int.tmod (wrap64 ((wrap64 ((wrap64 (41 * x3)) + (wrap64 (bt x0 x7)))) + 1)) 999979) x6 (wrap64 (x7 + 1))) else (none)) else (none)) else (some x3)
def impl_checksum.f (k : Nat) (a0 : ByteArray) : Option (Int) := impl_checksum.l0 k a0 7 (a0.size : Int) 0
set_option maxHeartbeats 8000000 in
set_option maxRecDepth 100000 in
theorem impl_checksum.calls (k : Nat) (a0 : ByteArray) (r : Int) (w : World) (h : impl_checksum.f k a0 = some r) :
    Calls Tryd.prog 51 #[.string a0] w fun e w' => e = .returned (.int .i64 r) ∧ Drawn0 w w' := by
  have H : (impl_checksum.l0 k a0 7 (a0.size : Int) 0) = some r := h
  clear h
  have H' := Aside0.mk H
  clear H
  go_enter Tryd.func51, Tryd.ntmps51
  go_wp2
  go_loopg [3, 7] k (fun kq v3 v7 w' => ∃ (x3_1 : Int) (x7_1 : Int), v3 = .int .i64 x3_1 ∧ v7 = .int .i64 x7_1 ∧ Aside0 (impl_checksum.l0 kq a0 x3_1 (a0.size : Int) x7_1 = some r) ∧ Aside0 (kq ≤ k) ∧ Drawn0 w w')
  case atStart => exact ⟨(7), (0), (by first | rfl | (simp; done) | (simp [*]; done)), (by first | rfl | (simp; done) | (simp [*]; done)), H', ⟨Nat.le_refl _⟩, by repeat (first | exact Drawn0.refl _ | apply Drawn0.step)⟩
  case round =>
    clear H'
    obtain ⟨x3_1, x7_1, rfl, rfl, HA, HK1, ⟨m1, rfl⟩⟩ := hrel
    cases gk with
    | zero => exact absurd HA.out (by simp [impl_checksum.l0])
    | succ k1 =>
      have H := HA.out
      clear HA
      simp only [impl_checksum.l0] at H
      by_cases c2 : x7_1 < (a0.size : Int)
      · rw [if_pos c2] at H
        have c2b0 : decide (x7_1 < (a0.size : Int)) = true := decide_eq_true c2
        clear c2
        by_cases c3 : 0 ≤ x7_1
        · rw [if_pos c3] at H
          have c3b0 : decide (0 ≤ x7_1) = true := decide_eq_true c3
          clear c3
          by_cases c4 : x7_1 < (a0.size : Int)
          · rw [if_pos c4] at H
            have c4b0 : decide (x7_1 < (a0.size : Int)) = true := decide_eq_true c4
            clear c4
            have H' := Aside0.mk H
            clear H
            have p5 : 0 ≤ (x7_1 : Int) := of_decide_eq_true (by first | (with_reducible assumption) | assumption)
            have q5 : x7_1 < (a0.size : Int) := of_decide_eq_true (by first | (with_reducible assumption) | assumption)
            have hx5 := bt_at a0 x7_1
            replace p5 := eq_true p5
            replace q5 := eq_true q5
            go_wp2
            go_roundg k1
            case measure => have := HK1.out; omega
            case rel => exact ⟨(Int.tmod (wrap64 ((wrap64 ((wrap64 (41 * x3_1)) + (wrap64 (bt a0 x7_1)))) + 1)) 999979), (wrap64 (x7_1 + 1)), (by first | rfl | (simp; done) | (simp [*]; done)), (by first | rfl | (simp; done) | (simp [*]; done)), H', ⟨by have := HK1.out; omega⟩, by repeat (first | exact Drawn0.refl _ | apply Drawn0.step)⟩
          · rw [if_neg c4] at H
            exact absurd H (by simp)
        · rw [if_neg c3] at H
          exact absurd H (by simp)
      · rw [if_neg c2] at H
        have c2b0 : decide (x7_1 < (a0.size : Int)) = false := decide_eq_false c2
        clear c2
        obtain rfl := Option.some.inj H
        go_wp2
        go_ret
        exact ⟨by first | rfl | (simp; done) | (simp [*]; done), by repeat (first | exact Drawn0.refl _ | apply Drawn0.step)⟩
def impl_AppendChecksum.f (k : Nat) (a0 : ByteArray) : Option (ByteArray × Bool) := if a0.size + 1 ≤ 9223372036854775807 then ((impl_checksum.f k a0).bind fun t138 => ((strconv_Itoa.f t138).bind fun t139 => (if (a0 ++ (⟨#[35]⟩ : ByteArray)).size + t139.size ≤ 9223372036854775807 then ((strings_Contains.f a0 (⟨#[35]⟩ : ByteArray)).bind fun t140 => (if t140 = true then (some ((⟨#[]⟩ : ByteArray), false)) else (if (((a0 ++ (⟨#[35]⟩ : ByteArray)) ++ t139).size : Int) > 4000 then (some ((⟨#[]⟩ : ByteArray), false)) else (some ((a0 ++ (⟨#[35]⟩ : ByteArray)) ++ t139, true))))) else (none)))) else (none)
set_option maxHeartbeats 8000000 in
set_option maxRecDepth 100000 in
theorem impl_AppendChecksum.calls (k : Nat) (a0 : ByteArray) (r1 : ByteArray) (r2 : Bool) (w : World) (h : impl_AppendChecksum.f k a0 = some (r1, r2)) (hG_Tab : Tab w) :
    Calls Tryd.prog 27 #[.string a0] w fun e w' => e = .returned (.tuple #[.string r1, .bool r2]) ∧ Below w.heap.size w w' := by
  have HG_Tab := Aside0.mk hG_Tab
  clear hG_Tab
  have HB := Aside0.mk (Below.refl w.heap.size w)
  have H : (if a0.size + 1 ≤ 9223372036854775807 then ((impl_checksum.f k a0).bind fun t138 => ((strconv_Itoa.f t138).bind fun t139 => (if (a0 ++ (⟨#[35]⟩ : ByteArray)).size + t139.size ≤ 9223372036854775807 then ((strings_Contains.f a0 (⟨#[35]⟩ : ByteArray)).bind fun t140 => (if t140 = true then (some ((⟨#[]⟩ : ByteArray), false)) else (if (((a0 ++ (⟨#[35]⟩ : ByteArray)) ++ t139).size : Int) > 4000 then (some ((⟨#[]⟩ : ByteArray), false)) else (some ((a0 ++ (⟨#[35]⟩ : ByteArray)) ++ t139, true))))) else (none)))) else (none)) = some (r1, r2) := h
  clear h
  by_cases c2 : a0.size + 1 ≤ 9223372036854775807
  · rw [if_pos c2] at H
    have c2b0 := eq_true c2
    have c2b1 : decide (a0.size + 1 ≤ 9223372036854775807) = true := decide_eq_true c2
    try have c2b2 : (9223372036854775807 < a0.size + 1) = False := eq_false (Nat.not_lt.2 c2)
    replace H := Option.bind_eq_some_iff.mp H
    obtain ⟨t138, A30, H⟩ := H
    replace H : ((strconv_Itoa.f t138).bind fun t139 => (if (a0 ++ (⟨#[35]⟩ : ByteArray)).size + t139.size ≤ 9223372036854775807 then ((strings_Contains.f a0 (⟨#[35]⟩ : ByteArray)).bind fun t140 => (if t140 = true then (some ((⟨#[]⟩ : ByteArray), false)) else (if (((a0 ++ (⟨#[35]⟩ : ByteArray)) ++ t139).size : Int) > 4000 then (some ((⟨#[]⟩ : ByteArray), false)) else (some ((a0 ++ (⟨#[35]⟩ : ByteArray)) ++ t139, true))))) else (none))) = some (r1, r2) := H
    have A3 := Aside0.mk A30
    clear A30
    replace H := Option.bind_eq_some_iff.mp H
    obtain ⟨t139, A40, H⟩ := H
    replace H : (if (a0 ++ (⟨#[35]⟩ : ByteArray)).size + t139.size ≤ 9223372036854775807 then ((strings_Contains.f a0 (⟨#[35]⟩ : ByteArray)).bind fun t140 => (if t140 = true then (some ((⟨#[]⟩ : ByteArray), false)) else (if (((a0 ++ (⟨#[35]⟩ : ByteArray)) ++ t139).size : Int) > 4000 then (some ((⟨#[]⟩ : ByteArray), false)) else (some ((a0 ++ (⟨#[35]⟩ : ByteArray)) ++ t139, true))))) else (none)) = some (r1, r2) := H
    have A4 := Aside0.mk A40
    clear A40
    by_cases c5 : (a0 ++ (⟨#[35]⟩ : ByteArray)).size + t139.size ≤ 9223372036854775807
    · rw [if_pos c5] at H
      have c5b0 := eq_true c5
      have c5b1 : decide ((a0 ++ (⟨#[35]⟩ : ByteArray)).size + t139.size ≤ 9223372036854775807) = true := decide_eq_true c5
      have c5b1z := c5b1
      (try simp only [ByteArray.size_append, Int.natCast_add] at c5b1z)
      (try simp only [show ∀ b_ : UInt8, (⟨#[b_]⟩ : ByteArray).size = 1 from fun _ => rfl, show ((1 : Nat) : Int) = 1 from rfl] at c5b1z)
      try have c5b2 : (9223372036854775807 < (a0 ++ (⟨#[35]⟩ : ByteArray)).size + t139.size) = False := eq_false (Nat.not_lt.2 c5)
      (try (have c5b2z := c5b2; simp only [ByteArray.size_append, show ∀ b_ : UInt8, (⟨#[b_]⟩ : ByteArray).size = 1 from fun _ => rfl] at c5b2z))
      replace H := Option.bind_eq_some_iff.mp H
      obtain ⟨t140, A60, H⟩ := H
      replace H : (if t140 = true then (some ((⟨#[]⟩ : ByteArray), false)) else (if (((a0 ++ (⟨#[35]⟩ : ByteArray)) ++ t139).size : Int) > 4000 then (some ((⟨#[]⟩ : ByteArray), false)) else (some ((a0 ++ (⟨#[35]⟩ : ByteArray)) ++ t139, true)))) = some (r1, r2) := H
      have A6 := Aside0.mk A60
      clear A60
      by_cases c7 : t140 = true
      · subst c7
        have H1 : (some ((⟨#[]⟩ : ByteArray), false)) = some (r1, r2) := by rw [if_pos rfl] at H; exact H
        clear H
        have H := H1
        clear H1
        simp only [Option.some.injEq, Prod.mk.injEq] at H
        obtain ⟨rfl, rfl⟩ := H
        go_enter Tryd.func27, Tryd.ntmps27
        go_wp2_with (first | ((with_reducible refine gate_callee (f := 51) rfl ?_); refine goesL_ (some 8) rfl rfl Tryd.func51 (by kernel_rfl) rfl #[.string a0] rfl (by (try simp only [List.map_toArray, List.map_cons, List.map_nil]); first | done | rfl | (simp only [List.length_drop, List.length_take]; rfl)) ?_; (with_reducible refine (impl_checksum.calls k a0 t138 _ A3.out).mono ?_); rintro e w' ⟨rfl, ⟨nd, rfl⟩⟩; refine ⟨_, rfl, ?_⟩) | ((with_reducible refine gate_callee (f := 46) rfl ?_); refine goesL_ (some 9) rfl rfl Tryd.func46 (by kernel_rfl) rfl #[.int .i64 t138] rfl (by (try simp only [List.map_toArray, List.map_cons, List.map_nil]); first | done | rfl | (simp only [List.length_drop, List.length_take]; rfl)) ?_; (with_reducible refine (strconv_Itoa.calls t138 t139 _ A4.out (Tab.below HG_Tab.out (by repeat (first | (with_reducible first | exact HB.out | apply below_alloc | apply pw_below_drewN | apply below_drew1) | exact HB.out)))).mono ?_); rintro e w8 ⟨rfl, hb⟩; refine ⟨_, rfl, ?_⟩; have n0_ := Aside0.mk (below_step (by repeat (first | (with_reducible first | exact HB.out | apply below_alloc | apply pw_below_drewN | apply below_drew1) | exact HB.out)) hb); clear HB; have HB := n0_; clear n0_; (try clear hb); (try clear hb2); (try clear hk); (try clear hi)) | ((with_reducible refine gate_callee (f := 39) rfl ?_); refine goesL_ (some 12) rfl rfl Tryd.func39 (by kernel_rfl) rfl #[.string a0, .string (⟨#[35]⟩ : ByteArray)] rfl (by (try simp only [List.map_toArray, List.map_cons, List.map_nil]); first | done | rfl | (simp only [List.length_drop, List.length_take]; rfl)) ?_; (with_reducible refine (strings_Contains.calls a0 (⟨#[35]⟩ : ByteArray) true _ A6.out).mono ?_); rintro e w9 ⟨rfl, hb⟩; refine ⟨_, rfl, ?_⟩; have n0_ := Aside0.mk (below_step (by repeat (first | (with_reducible first | exact HB.out | apply below_alloc | apply pw_below_drewN | apply below_drew1) | exact HB.out)) hb); clear HB; have HB := n0_; clear n0_; (try clear hb); (try clear hb2); (try clear hk); (try clear hi)))
        go_ret2
        exact ⟨by first | rfl | (simp [errW_none, errW_some] <;> rfl) | (simp [*, errW_none, errW_some] <;> rfl), by repeat (first | (with_reducible first | exact HB.out | apply below_alloc | apply pw_below_drewN | apply below_drew1) | exact HB.out)⟩
      · replace c7 := Bool.eq_false_iff.mpr c7
        subst c7
        have H1 : (if (((a0 ++ (⟨#[35]⟩ : ByteArray)) ++ t139).size : Int) > 4000 then (some ((⟨#[]⟩ : ByteArray), false)) else (some ((a0 ++ (⟨#[35]⟩ : ByteArray)) ++ t139, true))) = some (r1, r2) := by rw [if_neg (show ¬ (false = true) by decide)] at H; exact H
        clear H
        have H := H1
        clear H1
        by_cases c10 : (((a0 ++ (⟨#[35]⟩ : ByteArray)) ++ t139).size : Int) > 4000
        · rw [if_pos c10] at H
          have c10b0 : decide (4000 < (((a0 ++ (⟨#[35]⟩ : ByteArray)) ++ t139).size : Int)) = true := decide_eq_true c10
          have c10b0z := c10b0
          (try simp only [ByteArray.size_append, Int.natCast_add] at c10b0z)
          (try simp only [show ∀ b_ : UInt8, (⟨#[b_]⟩ : ByteArray).size = 1 from fun _ => rfl, show ((1 : Nat) : Int) = 1 from rfl] at c10b0z)
          have c10b1 : decide (4000 < ((a0 ++ (⟨#[35]⟩ : ByteArray)) ++ t139).size) = true := decide_eq_true (by omega)
          have c10b1z := c10b1
          (try simp only [ByteArray.size_append, Int.natCast_add] at c10b1z)
          (try simp only [show ∀ b_ : UInt8, (⟨#[b_]⟩ : ByteArray).size = 1 from fun _ => rfl, show ((1 : Nat) : Int) = 1 from rfl] at c10b1z)
          clear c10
          simp only [Option.some.injEq, Prod.mk.injEq] at H
          obtain ⟨rfl, rfl⟩ := H
          go_enter Tryd.func27, Tryd.ntmps27
          go_wp2_with (first | ((with_reducible refine gate_callee (f := 51) rfl ?_); refine goesL_ (some 8) rfl rfl Tryd.func51 (by kernel_rfl) rfl #[.string a0] rfl (by (try simp only [List.map_toArray, List.map_cons, List.map_nil]); first | done | rfl | (simp only [List.length_drop, List.length_take]; rfl)) ?_; (with_reducible refine (impl_checksum.calls k a0 t138 _ A3.out).mono ?_); rintro e w' ⟨rfl, ⟨nd, rfl⟩⟩; refine ⟨_, rfl, ?_⟩) | ((with_reducible refine gate_callee (f := 46) rfl ?_); refine goesL_ (some 9) rfl rfl Tryd.func46 (by kernel_rfl) rfl #[.int .i64 t138] rfl (by (try simp only [List.map_toArray, List.map_cons, List.map_nil]); first | done | rfl | (simp only [List.length_drop, List.length_take]; rfl)) ?_; (with_reducible refine (strconv_Itoa.calls t138 t139 _ A4.out (Tab.below HG_Tab.out (by repeat (first | (with_reducible first | exact HB.out | apply below_alloc | apply pw_below_drewN | apply below_drew1) | exact HB.out)))).mono ?_); rintro e w11 ⟨rfl, hb⟩; refine ⟨_, rfl, ?_⟩; have n0_ := Aside0.mk (below_step (by repeat (first | (with_reducible first | exact HB.out | apply below_alloc | apply pw_below_drewN | apply below_drew1) | exact HB.out)) hb); clear HB; have HB := n0_; clear n0_; (try clear hb); (try clear hb2); (try clear hk); (try clear hi)) | ((with_reducible refine gate_callee (f := 39) rfl ?_); refine goesL_ (some 12) rfl rfl Tryd.func39 (by kernel_rfl) rfl #[.string a0, .string (⟨#[35]⟩ : ByteArray)] rfl (by (try simp only [List.map_toArray, List.map_cons, List.map_nil]); first | done | rfl | (simp only [List.length_drop, List.length_take]; rfl)) ?_; (with_reducible refine (strings_Contains.calls a0 (⟨#[35]⟩ : ByteArray) false _ A6.out).mono ?_); rintro e w12 ⟨rfl, hb⟩; refine ⟨_, rfl, ?_⟩; have n0_ := Aside0.mk (below_step (by repeat (first | (with_reducible first | exact HB.out | apply below_alloc | apply pw_below_drewN | apply below_drew1) | exact HB.out)) hb); clear HB; have HB := n0_; clear n0_; (try clear hb); (try clear hb2); (try clear hk); (try clear hi)))
          go_ret2
          exact ⟨by first | rfl | (simp [errW_none, errW_some] <;> rfl) | (simp [*, errW_none, errW_some] <;> rfl), by repeat (first | (with_reducible first | exact HB.out | apply below_alloc | apply pw_below_drewN | apply below_drew1) | exact HB.out)⟩
        · rw [if_neg c10] at H
          have c10b0 : decide (4000 < (((a0 ++ (⟨#[35]⟩ : ByteArray)) ++ t139).size : Int)) = false := decide_eq_false c10
          have c10b0z := c10b0
          (try simp only [ByteArray.size_append, Int.natCast_add] at c10b0z)
          (try simp only [show ∀ b_ : UInt8, (⟨#[b_]⟩ : ByteArray).size = 1 from fun _ => rfl, show ((1 : Nat) : Int) = 1 from rfl] at c10b0z)
          have c10b1 : decide (4000 < ((a0 ++ (⟨#[35]⟩ : ByteArray)) ++ t139).size) = false := decide_eq_false (by omega)
          have c10b1z := c10b1
          (try simp only [ByteArray.size_append, Int.natCast_add] at c10b1z)
          (try simp only [show ∀ b_ : UInt8, (⟨#[b_]⟩ : ByteArray).size = 1 from fun _ => rfl, show ((1 : Nat) : Int) = 1 from rfl] at c10b1z)
          clear c10
          simp only [Option.some.injEq, Prod.mk.injEq] at H
          obtain ⟨rfl, rfl⟩ := H
          go_enter Tryd.func27, Tryd.ntmps27
          go_wp2_with (first | ((with_reducible refine gate_callee (f := 51) rfl ?_); refine goesL_ (some 8) rfl rfl Tryd.func51 (by kernel_rfl) rfl #[.string a0] rfl (by (try simp only [List.map_toArray, List.map_cons, List.map_nil]); first | done | rfl | (simp only [List.length_drop, List.length_take]; rfl)) ?_; (with_reducible refine (impl_checksum.calls k a0 t138 _ A3.out).mono ?_); rintro e w' ⟨rfl, ⟨nd, rfl⟩⟩; refine ⟨_, rfl, ?_⟩) | ((with_reducible refine gate_callee (f := 46) rfl ?_); refine goesL_ (some 9) rfl rfl Tryd.func46 (by kernel_rfl) rfl #[.int .i64 t138] rfl (by (try simp only [List.map_toArray, List.map_cons, List.map_nil]); first | done | rfl | (simp only [List.length_drop, List.length_take]; rfl)) ?_; (with_reducible refine (strconv_Itoa.calls t138 t139 _ A4.out (Tab.below HG_Tab.out (by repeat (first | (with_reducible first | exact HB.out | apply below_alloc | apply pw_below_drewN | apply below_drew1) | exact HB.out)))).mono ?_); rintro e w13 ⟨rfl, hb⟩; refine ⟨_, rfl, ?_⟩; have n0_ := Aside0.mk (below_step (by repeat (first | (with_reducible first | exact HB.out | apply below_alloc | apply pw_below_drewN | apply below_drew1) | exact HB.out)) hb); clear HB; have HB := n0_; clear n0_; (try clear hb); (try clear hb2); (try clear hk); (try clear hi)) | ((with_reducible refine gate_callee (f := 39) rfl ?_); refine goesL_ (some 12) rfl rfl Tryd.func39 (by kernel_rfl) rfl #[.string a0, .string (⟨#[35]⟩ : ByteArray)] rfl (by (try simp only [List.map_toArray, List.map_cons, List.map_nil]); first | done | rfl | (simp only [List.length_drop, List.length_take]; rfl)) ?_; (with_reducible refine (strings_Contains.calls a0 (⟨#[35]⟩ : ByteArray) false _ A6.out).mono ?_); rintro e w14 ⟨rfl, hb⟩; refine ⟨_, rfl, ?_⟩; have n0_ := Aside0.mk (below_step (by repeat (first | (with_reducible first | exact HB.out | apply below_alloc | apply pw_below_drewN | apply below_drew1) | exact HB.out)) hb); clear HB; have HB := n0_; clear n0_; (try clear hb); (try clear hb2); (try clear hk); (try clear hi)))
          go_ret2
          exact ⟨by first | rfl | (simp [errW_none, errW_some] <;> rfl) | (simp [*, errW_none, errW_some] <;> rfl), by repeat (first | (with_reducible first | exact HB.out | apply below_alloc | apply pw_below_drewN | apply below_drew1) | exact HB.out)⟩
    · rw [if_neg c5] at H
      exact absurd H (by simp)
  · rw [if_neg c2] at H
    exact absurd H (by simp)
def spec_l1Stands.l0 : Nat → ByteArray → Int → Int → Option (Bool)
  | 0, _, _, _ => none
  | k + 1, x0, x1, x5 => if x5 < (x0.size : Int) then (if 0 ≤ x5 then (if (bt x0 x5) = x1 then (some true) else (spec_l1Stands.l0 k x0 x1 (wrap64 (x5 + 1)))) else (none)) else (some false)
def spec_l1Stands.f (k : Nat) (a0 : ByteArray) (a1 : Int) : Option (Bool) := spec_l1Stands.l0 k a0 a1 0
set_option maxHeartbeats 8000000 in
set_option maxRecDepth 100000 in
theorem spec_l1Stands.calls (k : Nat) (a0 : ByteArray) (a1 : Int) (r : Bool) (w : World) (h : spec_l1Stands.f k a0 a1 = some r) :
    Calls Tryd.prog 41 #[.string a0, .int .u8 a1] w fun e w' => e = .returned (.bool r) ∧ Drawn0 w w' := by
  have H : (spec_l1Stands.l0 k a0 a1 0) = some r := h
  clear h
  have H' := Aside0.mk H
  clear H
  go_enter Tryd.func41, Tryd.ntmps41
  go_wp2
  go_loopg [5] k (fun kq v5 w' => ∃ (x5_1 : Int), v5 = .int .i64 x5_1 ∧ Aside0 (spec_l1Stands.l0 kq a0 a1 x5_1 = some r) ∧ Aside0 (kq ≤ k) ∧ Drawn0 w w')
  case atStart => exact ⟨(0), (by first | rfl | (simp; done) | (simp [*]; done)), H', ⟨Nat.le_refl _⟩, by repeat (first | exact Drawn0.refl _ | apply Drawn0.step)⟩
  case round =>
    clear H'
    try clear p2
    obtain ⟨x5_1, rfl, HA, HK1, ⟨m1, rfl⟩⟩ := hrel
    cases gk with
    | zero => exact absurd HA.out (by simp [spec_l1Stands.l0])
    | succ k1 =>
      have H := HA.out
      clear HA
      simp only [spec_l1Stands.l0] at H
      by_cases c3 : x5_1 < (a0.size : Int)
      · rw [if_pos c3] at H
        have c3b0 : decide (x5_1 < (a0.size : Int)) = true := decide_eq_true c3
        clear c3
        by_cases c4 : 0 ≤ x5_1
        · rw [if_pos c4] at H
          have c4b0 : decide (0 ≤ x5_1) = true := decide_eq_true c4
          clear c4
          by_cases c6 : (bt a0 x5_1) = a1
          · rw [if_pos c6] at H
            have c6b0 : ((bt a0 x5_1) == a1) = true := beq_iff_eq.mpr c6
            have c6b1 : ((bt a0 x5_1) != a1) = false := bne_eq_false_iff_eq.mpr c6
            clear c6
            obtain rfl := Option.some.inj H
            have p5 : 0 ≤ (x5_1 : Int) := of_decide_eq_true (by first | (with_reducible assumption) | assumption)
            have q5 : x5_1 < (a0.size : Int) := of_decide_eq_true (by first | (with_reducible assumption) | assumption)
            have hx5 := bt_at a0 x5_1
            replace p5 := eq_true p5
            replace q5 := eq_true q5
            go_wp2
            go_ret
            exact ⟨by first | rfl | (simp; done) | (simp [*]; done), by repeat (first | exact Drawn0.refl _ | apply Drawn0.step)⟩
          · rw [if_neg c6] at H
            have c6b0 : ((bt a0 x5_1) == a1) = false := beq_eq_false_iff_ne.mpr c6
            have c6b1 : ((bt a0 x5_1) != a1) = true := bne_iff_ne.mpr c6
            have H' := Aside0.mk H
            clear H
            have p5 : 0 ≤ (x5_1 : Int) := of_decide_eq_true (by first | (with_reducible assumption) | assumption)
            have q5 : x5_1 < (a0.size : Int) := of_decide_eq_true (by first | (with_reducible assumption) | assumption)
            have hx5 := bt_at a0 x5_1
            replace p5 := eq_true p5
            replace q5 := eq_true q5
            go_wp2
            go_roundg k1
            case measure => have := HK1.out; omega
            case rel => exact ⟨(wrap64 (x5_1 + 1)), (by first | rfl | (simp; done) | (simp [*]; done)), H', ⟨by have := HK1.out; omega⟩, by repeat (first | exact Drawn0.refl _ | apply Drawn0.step)⟩
        · rw [if_neg c4] at H
          exact absurd H (by simp)
      · rw [if_neg c3] at H
        have c3b0 : decide (x5_1 < (a0.size : Int)) = false := decide_eq_false c3
        clear c3
        obtain rfl := Option.some.inj H
        go_wp2
        go_ret
        exact ⟨by first | rfl | (simp; done) | (simp [*]; done), by repeat (first | exact Drawn0.refl _ | apply Drawn0.step)⟩
def spec_l1Sum.l0 : Nat → ByteArray → Int → Int → Option (Int)
  | 0, _, _, _ => none
  | k + 1, x0, x3, x4 => if x4 < (x0.size : Int) then (if 0 ≤ x4 then (spec_l1Sum.l0 k x0 (Int.tmod (wrap64 ((wrap64 ((wrap64 (41 * x3)) + (wrap64 (bt x0 x4)))) + 1)) 999979) (wrap64 (x4 + 1))) else (none)) else (some x3)
def spec_l1Sum.f (k : Nat) (a0 : ByteArray) : Option (Int) := spec_l1Sum.l0 k a0 7 0
set_option maxHeartbeats 8000000 in
set_option maxRecDepth 100000 in
theorem spec_l1Sum.calls (k : Nat) (a0 : ByteArray) (r : Int) (w : World) (h : spec_l1Sum.f k a0 = some r) :
    Calls Tryd.prog 66 #[.string a0] w fun e w' => e = .returned (.int .i64 r) ∧ Drawn0 w w' := by
  have H : (spec_l1Sum.l0 k a0 7 0) = some r := h
  clear h
  have H' := Aside0.mk H
  clear H
  go_enter Tryd.func66, Tryd.ntmps66
  go_wp2
  go_loopg [3, 4] k (fun kq v3 v4 w' => ∃ (x3_1 : Int) (x4_1 : Int), v3 = .int .i64 x3_1 ∧ v4 = .int .i64 x4_1 ∧ Aside0 (spec_l1Sum.l0 kq a0 x3_1 x4_1 = some r) ∧ Aside0 (kq ≤ k) ∧ Drawn0 w w')
  case atStart => exact ⟨(7), (0), (by first | rfl | (simp; done) | (simp [*]; done)), (by first | rfl | (simp; done) | (simp [*]; done)), H', ⟨Nat.le_refl _⟩, by repeat (first | exact Drawn0.refl _ | apply Drawn0.step)⟩
  case round =>
    clear H'
    obtain ⟨x3_1, x4_1, rfl, rfl, HA, HK1, ⟨m1, rfl⟩⟩ := hrel
    cases gk with
    | zero => exact absurd HA.out (by simp [spec_l1Sum.l0])
    | succ k1 =>
      have H := HA.out
      clear HA
      simp only [spec_l1Sum.l0] at H
      by_cases c2 : x4_1 < (a0.size : Int)
      · rw [if_pos c2] at H
        have c2b0 : decide (x4_1 < (a0.size : Int)) = true := decide_eq_true c2
        clear c2
        by_cases c3 : 0 ≤ x4_1
        · rw [if_pos c3] at H
          have c3b0 : decide (0 ≤ x4_1) = true := decide_eq_true c3
          clear c3
          have H' := Aside0.mk H
          clear H
          have p4 : 0 ≤ (x4_1 : Int) := of_decide_eq_true (by first | (with_reducible assumption) | assumption)
          have q4 : x4_1 < (a0.size : Int) := of_decide_eq_true (by first | (with_reducible assumption) | assumption)
          have hx4 := bt_at a0 x4_1
          replace p4 := eq_true p4
          replace q4 := eq_true q4
          go_wp2
          go_roundg k1
          case measure => have := HK1.out; omega
          case rel => exact ⟨(Int.tmod (wrap64 ((wrap64 ((wrap64 (41 * x3_1)) + (wrap64 (bt a0 x4_1)))) + 1)) 999979), (wrap64 (x4_1 + 1)), (by first | rfl | (simp; done) | (simp [*]; done)), (by first | rfl | (simp; done) | (simp [*]; done)), H', ⟨by have := HK1.out; omega⟩, by repeat (first | exact Drawn0.refl _ | apply Drawn0.step)⟩
        · rw [if_neg c3] at H
          exact absurd H (by simp)
      · rw [if_neg c2] at H
        have c2b0 : decide (x4_1 < (a0.size : Int)) = false := decide_eq_false c2
        clear c2
        obtain rfl := Option.some.inj H
        go_wp2
        go_ret
        exact ⟨by first | rfl | (simp; done) | (simp [*]; done), by repeat (first | exact Drawn0.refl _ | apply Drawn0.step)⟩
def spec_l1Seal.f (k : Nat) (a0 : ByteArray) : Option (ByteArray) := if a0.size + 1 ≤ 9223372036854775807 then ((spec_l1Sum.f k a0).bind fun t141 => ((spec_l1Num.f k t141).bind fun t142 => (if (a0 ++ (⟨#[35]⟩ : ByteArray)).size + t142.size ≤ 9223372036854775807 then (some ((a0 ++ (⟨#[35]⟩ : ByteArray)) ++ t142)) else (none)))) else (none)
set_option maxHeartbeats 8000000 in
set_option maxRecDepth 100000 in
theorem spec_l1Seal.calls (k : Nat) (a0 : ByteArray) (r : ByteArray) (w : World) (h : spec_l1Seal.f k a0 = some r) :
    Calls Tryd.prog 52 #[.string a0] w fun e w' => e = .returned (.string r) ∧ Below w.heap.size w w' := by
  have HB := Aside0.mk (Below.refl w.heap.size w)
  have H : (if a0.size + 1 ≤ 9223372036854775807 then ((spec_l1Sum.f k a0).bind fun t141 => ((spec_l1Num.f k t141).bind fun t142 => (if (a0 ++ (⟨#[35]⟩ : ByteArray)).size + t142.size ≤ 9223372036854775807 then (some ((a0 ++ (⟨#[35]⟩ : ByteArray)) ++ t142)) else (none)))) else (none)) = some r := h
  clear h
  by_cases c2 : a0.size + 1 ≤ 9223372036854775807
  · rw [if_pos c2] at H
    have c2b0 := eq_true c2
    have c2b1 : decide (a0.size + 1 ≤ 9223372036854775807) = true := decide_eq_true c2
    try have c2b2 : (9223372036854775807 < a0.size + 1) = False := eq_false (Nat.not_lt.2 c2)
    replace H := Option.bind_eq_some_iff.mp H
    obtain ⟨t141, A30, H⟩ := H
    replace H : ((spec_l1Num.f k t141).bind fun t142 => (if (a0 ++ (⟨#[35]⟩ : ByteArray)).size + t142.size ≤ 9223372036854775807 then (some ((a0 ++ (⟨#[35]⟩ : ByteArray)) ++ t142)) else (none))) = some r := H
    have A3 := Aside0.mk A30
    clear A30
    replace H := Option.bind_eq_some_iff.mp H
    obtain ⟨t142, A40, H⟩ := H
    replace H : (if (a0 ++ (⟨#[35]⟩ : ByteArray)).size + t142.size ≤ 9223372036854775807 then (some ((a0 ++ (⟨#[35]⟩ : ByteArray)) ++ t142)) else (none)) = some r := H
    have A4 := Aside0.mk A40
    clear A40
    by_cases c5 : (a0 ++ (⟨#[35]⟩ : ByteArray)).size + t142.size ≤ 9223372036854775807
    · rw [if_pos c5] at H
      have c5b0 := eq_true c5
      have c5b1 : decide ((a0 ++ (⟨#[35]⟩ : ByteArray)).size + t142.size ≤ 9223372036854775807) = true := decide_eq_true c5
      have c5b1z := c5b1
      (try simp only [ByteArray.size_append, Int.natCast_add] at c5b1z)
      (try simp only [show ∀ b_ : UInt8, (⟨#[b_]⟩ : ByteArray).size = 1 from fun _ => rfl, show ((1 : Nat) : Int) = 1 from rfl] at c5b1z)
      try have c5b2 : (9223372036854775807 < (a0 ++ (⟨#[35]⟩ : ByteArray)).size + t142.size) = False := eq_false (Nat.not_lt.2 c5)
      (try (have c5b2z := c5b2; simp only [ByteArray.size_append, show ∀ b_ : UInt8, (⟨#[b_]⟩ : ByteArray).size = 1 from fun _ => rfl] at c5b2z))
      obtain rfl := Option.some.inj H
      go_enter Tryd.func52, Tryd.ntmps52
      go_wp2_with (first | ((with_reducible refine gate_callee (f := 66) rfl ?_); refine goesL_ (some 6) rfl rfl Tryd.func66 (by kernel_rfl) rfl #[.string a0] rfl (by (try simp only [List.map_toArray, List.map_cons, List.map_nil]); first | done | rfl | (simp only [List.length_drop, List.length_take]; rfl)) ?_; (with_reducible refine (spec_l1Sum.calls k a0 t141 _ A3.out).mono ?_); rintro e w' ⟨rfl, ⟨nd, rfl⟩⟩; refine ⟨_, rfl, ?_⟩) | ((with_reducible refine gate_callee (f := 48) rfl ?_); refine goesL_ (some 7) rfl rfl Tryd.func48 (by kernel_rfl) rfl #[.int .i64 t141] rfl (by (try simp only [List.map_toArray, List.map_cons, List.map_nil]); first | done | rfl | (simp only [List.length_drop, List.length_take]; rfl)) ?_; (with_reducible refine (spec_l1Num.calls k t141 t142 _ A4.out).mono ?_); rintro e w6 ⟨rfl, hb⟩; refine ⟨_, rfl, ?_⟩; have n0_ := Aside0.mk (below_step (by repeat (first | (with_reducible first | exact HB.out | apply below_alloc | apply pw_below_drewN | apply below_drew1) | exact HB.out)) hb); clear HB; have HB := n0_; clear n0_; (try clear hb); (try clear hb2); (try clear hk); (try clear hi)))
      go_ret
      exact ⟨by first | rfl | (simp [errW_none, errW_some] <;> rfl) | (simp [*, errW_none, errW_some] <;> rfl), by repeat (first | (with_reducible first | exact HB.out | apply below_alloc | apply pw_below_drewN | apply below_drew1) | exact HB.out)⟩
    · rw [if_neg c5] at H
      exact absurd H (by simp)
  · rw [if_neg c2] at H
    exact absurd H (by simp)
def spec_AppendChecksum.f (k : Nat) (a0 : ByteArray) : Option (ByteArray × Bool) := if (a0.size : Int) > 4000 then (some ((⟨#[]⟩ : ByteArray), false)) else ((spec_l1Stands.f k a0 35).bind fun t143 => (if t143 = true then (some ((⟨#[]⟩ : ByteArray), false)) else ((spec_l1Seal.f k a0).bind fun t144 => (if (t144.size : Int) > 4000 then (some ((⟨#[]⟩ : ByteArray), false)) else ((spec_l1Seal.f k a0).bind fun t145 => (some (t145, true)))))))
set_option maxHeartbeats 8000000 in
set_option maxRecDepth 100000 in
theorem spec_AppendChecksum.calls (k : Nat) (a0 : ByteArray) (r1 : ByteArray) (r2 : Bool) (w : World) (h : spec_AppendChecksum.f k a0 = some (r1, r2)) :
    Calls Tryd.prog 28 #[.string a0] w fun e w' => e = .returned (.tuple #[.string r1, .bool r2]) ∧ Below w.heap.size w w' := by
  have HB := Aside0.mk (Below.refl w.heap.size w)
  have H : (if (a0.size : Int) > 4000 then (some ((⟨#[]⟩ : ByteArray), false)) else ((spec_l1Stands.f k a0 35).bind fun t143 => (if t143 = true then (some ((⟨#[]⟩ : ByteArray), false)) else ((spec_l1Seal.f k a0).bind fun t144 => (if (t144.size : Int) > 4000 then (some ((⟨#[]⟩ : ByteArray), false)) else ((spec_l1Seal.f k a0).bind fun t145 => (some (t145, true)))))))) = some (r1, r2) := h
  clear h
  by_cases c2 : (a0.size : Int) > 4000
  · rw [if_pos c2] at H
    have c2b0 : decide (4000 < (a0.size : Int)) = true := decide_eq_true c2
    have c2b1 : decide (4000 < a0.size) = true := decide_eq_true (by omega)
    clear c2
    simp only [Option.some.injEq, Prod.mk.injEq] at H
    obtain ⟨rfl, rfl⟩ := H
    go_enter Tryd.func28, Tryd.ntmps28
    go_wp2
    go_ret2
    exact ⟨by first | rfl | (simp [errW_none, errW_some] <;> rfl) | (simp [*, errW_none, errW_some] <;> rfl), by repeat (first | (with_reducible first | exact HB.out | apply below_alloc | apply pw_below_drewN | apply below_drew1) | exact HB.out)⟩
  · rw [if_neg c2] at H
    have c2b0 : decide (4000 < (a0.size : Int)) = false := decide_eq_false c2
    have c2b1 : decide (4000 < a0.size) = false := decide_eq_false (by omega)
    clear c2
    replace H := Option.bind_eq_some_iff.mp H
    obtain ⟨t143, A30, H⟩ := H
    replace H : (if t143 = true then (some ((⟨#[]⟩ : ByteArray), false)) else ((spec_l1Seal.f k a0).bind fun t144 => (if (t144.size : Int) > 4000 then (some ((⟨#[]⟩ : ByteArray), false)) else ((spec_l1Seal.f k a0).bind fun t145 => (some (t145, true)))))) = some (r1, r2) := H
    have A3 := Aside0.mk A30
    clear A30
    by_cases c4 : t143 = true
    · subst c4
      have H1 : (some ((⟨#[]⟩ : ByteArray), false)) = some (r1, r2) := by rw [if_pos rfl] at H; exact H
      clear H
      have H := H1
      clear H1
      simp only [Option.some.injEq, Prod.mk.injEq] at H
      obtain ⟨rfl, rfl⟩ := H
      go_enter Tryd.func28, Tryd.ntmps28
      go_wp2_with (first | (go_at_call 41; (with_reducible refine (spec_l1Stands.calls k a0 35 true _ A3.out).mono ?_); rintro e w' ⟨rfl, ⟨nd, rfl⟩⟩))
      go_ret2
      exact ⟨by first | rfl | (simp [errW_none, errW_some] <;> rfl) | (simp [*, errW_none, errW_some] <;> rfl), by repeat (first | (with_reducible first | exact HB.out | apply below_alloc | apply pw_below_drewN | apply below_drew1) | exact HB.out)⟩
    · replace c4 := Bool.eq_false_iff.mpr c4
      subst c4
      have H1 : ((spec_l1Seal.f k a0).bind fun t144 => (if (t144.size : Int) > 4000 then (some ((⟨#[]⟩ : ByteArray), false)) else ((spec_l1Seal.f k a0).bind fun t145 => (some (t145, true))))) = some (r1, r2) := by rw [if_neg (show ¬ (false = true) by decide)] at H; exact H
      clear H
      have H := H1
      clear H1
      replace H := Option.bind_eq_some_iff.mp H
      obtain ⟨t144, A50, H⟩ := H
      replace H : (if (t144.size : Int) > 4000 then (some ((⟨#[]⟩ : ByteArray), false)) else ((spec_l1Seal.f k a0).bind fun t145 => (some (t145, true)))) = some (r1, r2) := H
      have A5 := Aside0.mk A50
      clear A50
      by_cases c6 : (t144.size : Int) > 4000
      · rw [if_pos c6] at H
        have c6b0 : decide (4000 < (t144.size : Int)) = true := decide_eq_true c6
        have c6b1 : decide (4000 < t144.size) = true := decide_eq_true (by omega)
        clear c6
        simp only [Option.some.injEq, Prod.mk.injEq] at H
        obtain ⟨rfl, rfl⟩ := H
        go_enter Tryd.func28, Tryd.ntmps28
        go_wp2_with (first | (go_at_call 41; (with_reducible refine (spec_l1Stands.calls k a0 35 false _ A3.out).mono ?_); rintro e w' ⟨rfl, ⟨nd, rfl⟩⟩) | (go_at_call 52; (with_reducible refine (spec_l1Seal.calls k a0 t144 _ A5.out).mono ?_); rintro e w7 ⟨rfl, hb⟩; have n0_ := Aside0.mk (below_step (by repeat (first | (with_reducible first | exact HB.out | apply below_alloc | apply pw_below_drewN | apply below_drew1) | exact HB.out)) hb); clear HB; have HB := n0_; clear n0_; (try clear hb); (try clear hb2); (try clear hk); (try clear hi)))
        go_ret2
        exact ⟨by first | rfl | (simp [errW_none, errW_some] <;> rfl) | (simp [*, errW_none, errW_some] <;> rfl), by repeat (first | (with_reducible first | exact HB.out | apply below_alloc | apply pw_below_drewN | apply below_drew1) | exact HB.out)⟩
      · rw [if_neg c6] at H
        have c6b0 : decide (4000 < (t144.size : Int)) = false := decide_eq_false c6
        have c6b1 : decide (4000 < t144.size) = false := decide_eq_false (by omega)
        clear c6
        replace H := Option.bind_eq_some_iff.mp H
        obtain ⟨t145, A80, H⟩ := H
        replace H : (some (t145, true)) = some (r1, r2) := H
        have A8 := Aside0.mk A80
        clear A80
        simp only [Option.some.injEq, Prod.mk.injEq] at H
        obtain ⟨rfl, rfl⟩ := H
        go_enter Tryd.func28, Tryd.ntmps28
        go_wp2_with (first | (go_at_call 41; (with_reducible refine (spec_l1Stands.calls k a0 35 false _ A3.out).mono ?_); rintro e w' ⟨rfl, ⟨nd, rfl⟩⟩) | (go_at_call 52; (with_reducible refine (spec_l1Seal.calls k a0 t144 _ A5.out).mono ?_); rintro e w9 ⟨rfl, hb⟩; have n0_ := Aside0.mk (below_step (by repeat (first | (with_reducible first | exact HB.out | apply below_alloc | apply pw_below_drewN | apply below_drew1) | exact HB.out)) hb); clear HB; have HB := n0_; clear n0_; (try clear hb); (try clear hb2); (try clear hk); (try clear hi)) | ((with_reducible refine gate_callee (f := 52) rfl ?_); refine goesL_ (some 18) rfl rfl Tryd.func52 (by kernel_rfl) rfl #[.string a0] rfl (by (try simp only [List.map_toArray, List.map_cons, List.map_nil]); first | done | rfl | (simp only [List.length_drop, List.length_take]; rfl)) ?_; (with_reducible refine (spec_l1Seal.calls k a0 t145 _ A8.out).mono ?_); rintro e w10 ⟨rfl, hb⟩; refine ⟨_, rfl, ?_⟩; have n0_ := Aside0.mk (below_step (by repeat (first | (with_reducible first | exact HB.out | apply below_alloc | apply pw_below_drewN | apply below_drew1) | exact HB.out)) hb); clear HB; have HB := n0_; clear n0_; (try clear hb); (try clear hb2); (try clear hk); (try clear hi)))
        go_ret2
        exact ⟨by first | rfl | (simp [errW_none, errW_some] <;> rfl) | (simp [*, errW_none, errW_some] <;> rfl), by repeat (first | (with_reducible first | exact HB.out | apply below_alloc | apply pw_below_drewN | apply below_drew1) | exact HB.out)⟩
end Go.Proofs.YtklddfkhbhkhdaaDoor.Q
namespace Go.Proofs
open Go.Shelf
def Tryd.lCut_ren : Go.Shelf.Ren := ⟨fun | 145 => 53 | 220 => 67 | 219 => 71 | 217 => 92 | 225 => 93 | 224 => 94 | 267 => 95 | 266 => 112 | 314 => 113 | n => n, fun | 9 => 9 | 4 => 4 | 59 => 65 | 3 => 3 | 5 => 5 | 46 => 79 | 146 => 133 | 51 => 84 | n => n, fun | 1 => 0 | n => n⟩
theorem Tryd.lCut : Go.Proofs.LaysM.n145 Tryd.prog Tryd.lCut_ren := {
  mixed := by kernel_rfl
  f145 := Tryd.func53.trans (congrArg some (by kernel_rfl))
  f217 := Tryd.func92.trans (congrArg some (by kernel_rfl))
  f219 := Tryd.func71.trans (congrArg some (by kernel_rfl))
  f220 := Tryd.func67.trans (congrArg some (by kernel_rfl))
  f224 := Tryd.func94.trans (congrArg some (by kernel_rfl))
  f225 := Tryd.func93.trans (congrArg some (by kernel_rfl))
  f266 := Tryd.func112.trans (congrArg some (by kernel_rfl))
  f267 := Tryd.func95.trans (congrArg some (by kernel_rfl))
  f314 := Tryd.func113.trans (congrArg some (by kernel_rfl))
  t3 := Tryd.underlying3
  a3 := Tryd.isAgg3
  z3 := Tryd.sizeOf3
  v3 := Tryd.zeroValue3
  t4 := Tryd.underlying4
  a4 := Tryd.isAgg4
  z4 := Tryd.sizeOf4
  v4 := Tryd.zeroValue4
  t5 := Tryd.underlying5
  a5 := Tryd.isAgg5
  z5 := Tryd.sizeOf5
  v5 := Tryd.zeroValue5
  t9 := Tryd.underlying9
  a9 := Tryd.isAgg9
  z9 := Tryd.sizeOf9
  v9 := Tryd.zeroValue9
  t46 := Tryd.underlying79
  a46 := Tryd.isAgg79
  z46 := Tryd.sizeOf79
  v46 := Tryd.zeroValue79
  t51 := Tryd.underlying84
  a51 := Tryd.isAgg84
  z51 := Tryd.sizeOf84
  v51 := Tryd.zeroValue84
  t59 := Tryd.underlying65
  a59 := Tryd.isAgg65
  z59 := Tryd.sizeOf65
  v59 := Tryd.zeroValue65
  t146 := Tryd.underlying133
  a146 := Tryd.isAgg133
  z146 := Tryd.sizeOf133
  v146 := Tryd.zeroValue133
  g1 := by kernel_rfl
  i3 := by kernel_rfl
  i4 := by kernel_rfl
  i5 := by kernel_rfl
  i9 := by kernel_rfl
  i46 := by kernel_rfl
  i51 := by kernel_rfl
  i59 := by kernel_rfl
  i146 := by kernel_rfl
  m1 := by kernel_rfl
  s1_3 := fun w h => Go.Proofs.cell_of_shapedOpen_int (zero := #[.int .i64 0]) (t := 3) h (of_decide_eq_true (by kernel_rfl)) (by kernel_rfl) rfl (by kernel_rfl) (by kernel_rfl) Tryd.underlying3 }
end Go.Proofs
namespace Go.Proofs.YtklddfkhbhkhdaaDoor.Q
open Go.RowKit Go.Shelf Go.Proofs.YtklddfkhbhkhdaaDoorW.PrintWords Go.Proofs.YtklddfkhbhkhdaaDoorW.PrintLast Go.Proofs.YtklddfkhbhkhdaaDoorW.PrintMore
def cutOf (a b : ByteArray) : List UInt8 × List UInt8 × Bool := Lib.cut a.data.toList b.data.toList
def strings_Cut.f (a0 a1 : ByteArray) : Option (ByteArray × ByteArray × Bool) := if a0.size < 4294967281 then some (⟨(cutOf a0 a1).1.toArray⟩, ⟨(cutOf a0 a1).2.1.toArray⟩, (cutOf a0 a1).2.2) else none
theorem strings_Cut.calls (a0 a1 : ByteArray) (r1 r2 : ByteArray) (r3 : Bool) (w : World) (h : strings_Cut.f a0 a1 = some (r1, r2, r3)) (hG_MaxIs : MaxIs w) :
    Calls Tryd.prog 53 #[.string a0, .string a1] w fun e w' => e = .returned (.tuple #[.string r1, .string r2, .bool r3]) ∧ Below w.heap.size w w' := by
  unfold strings_Cut.f at h
  split at h
  case isFalse => cases h
  rename_i hn
  injection h with h
  injection h with h1 h2
  injection h2 with h2 h3
  subst h1; subst h2; subst h3
  obtain ⟨m, hm⟩ := hG_MaxIs
  refine (Any.strings_Cut { Tryd.lCut with } a0 a1 m w hn hm).mono ?_
  rintro e w' ⟨rfl, n, rfl⟩
  exact ⟨rfl, below_drewN (Below.refl _ _) n⟩
end Go.Proofs.YtklddfkhbhkhdaaDoor.Q
namespace Go.Proofs.YtklddfkhbhkhdaaDoor.Q
open Go.RowKit Go.Proofs.YtklddfkhbhkhdaaDoorW.PrintWords Go.Proofs.YtklddfkhbhkhdaaDoorW.PrintLast Go.Proofs.YtklddfkhbhkhdaaDoorW.PrintMore
attribute [local go_sem] run_field_156 run_field_157 isSome_setCell max2_int min2_int max_two min_two max_three min_three max_four min_four   -- for this text's walks alone
set_option linter.unusedVariables false
set_option linter.unusedSimpArgs false
def impl_VerifyChecksum.f (k : Nat) (a0 : ByteArray) : Option (ByteArray × Bool) := (strings_Cut.f a0 (⟨#[35]⟩ : ByteArray)).bind fun bt146 => ((impl_AppendChecksum.f k bt146.1).bind fun bt149 => (if bt149.2 = true then (if bt149.1.toList = a0.toList then (some (bt146.1, true)) else (some ((⟨#[]⟩ : ByteArray), false))) else (some ((⟨#[]⟩ : ByteArray), false))))
set_option maxHeartbeats 8000000 in
set_option maxRecDepth 100000 in
theorem impl_VerifyChecksum.calls (k : Nat) (a0 : ByteArray) (r1 : ByteArray) (r2 : Bool) (w : World) (h : impl_VerifyChecksum.f k a0 = some (r1, r2)) (hG_MaxIs : MaxIs w) (hG_Tab : Tab w) :
    Calls Tryd.prog 29 #[.string a0] w fun e w' => e = .returned (.tuple #[.string r1, .bool r2]) ∧ Below w.heap.size w w' := by
  have HG_MaxIs := Aside0.mk hG_MaxIs
  clear hG_MaxIs
  have HG_Tab := Aside0.mk hG_Tab
  clear hG_Tab
  have HB := Aside0.mk (Below.refl w.heap.size w)
  have H : ((strings_Cut.f a0 (⟨#[35]⟩ : ByteArray)).bind fun bt146 => ((impl_AppendChecksum.f k bt146.1).bind fun bt149 => (if bt149.2 = true then (if bt149.1.toList = a0.toList then (some (bt146.1, true)) else (some ((⟨#[]⟩ : ByteArray), false))) else (some ((⟨#[]⟩ : ByteArray), false))))) = some (r1, r2) := h
  clear h
  replace H := Option.bind_eq_some_iff.mp H
  obtain ⟨⟨t146, t147, t148⟩, A20, H⟩ := H
  replace H : ((impl_AppendChecksum.f k t146).bind fun bt149 => (if bt149.2 = true then (if bt149.1.toList = a0.toList then (some (t146, true)) else (some ((⟨#[]⟩ : ByteArray), false))) else (some ((⟨#[]⟩ : ByteArray), false)))) = some (r1, r2) := H
  have A2 := Aside0.mk A20
  clear A20
  replace H := Option.bind_eq_some_iff.mp H
  obtain ⟨⟨t149, t150⟩, A30, H⟩ := H
  replace H : (if t150 = true then (if t149.toList = a0.toList then (some (t146, true)) else (some ((⟨#[]⟩ : ByteArray), false))) else (some ((⟨#[]⟩ : ByteArray), false))) = some (r1, r2) := H
  have A3 := Aside0.mk A30
  clear A30
  by_cases c4 : t150 = true
  · subst c4
    have H1 : (if t149.toList = a0.toList then (some (t146, true)) else (some ((⟨#[]⟩ : ByteArray), false))) = some (r1, r2) := by rw [if_pos rfl] at H; exact H
    clear H
    have H := H1
    clear H1
    by_cases c5 : t149.toList = a0.toList
    · rw [if_pos c5] at H
      have c5b0 : (t149.toList == a0.toList) = true := beq_iff_eq.mpr c5
      have c5b1 : (t149.toList != a0.toList) = false := bne_eq_false_iff_eq.mpr c5
      clear c5
      simp only [Option.some.injEq, Prod.mk.injEq] at H
      obtain ⟨rfl, rfl⟩ := H
      go_enter Tryd.func29, Tryd.ntmps29
      go_wp2_with (first | ((with_reducible refine gate_callee (f := 53) rfl ?_); refine goesL_ (some 11) rfl rfl Tryd.func53 (by kernel_rfl) rfl #[.string a0, .string (⟨#[35]⟩ : ByteArray)] rfl (by (try simp only [List.map_toArray, List.map_cons, List.map_nil]); first | done | rfl | (simp only [List.length_drop, List.length_take]; rfl)) ?_; (with_reducible refine (strings_Cut.calls a0 (⟨#[35]⟩ : ByteArray) t146 t147 t148 _ A2.out (MaxIs.below HG_MaxIs.out (by repeat (first | (with_reducible first | exact HB.out | apply below_alloc | apply pw_below_drewN | apply below_drew1) | exact HB.out)))).mono ?_); rintro e w6 ⟨rfl, hb⟩; refine ⟨_, rfl, ?_⟩; have n0_ := Aside0.mk (below_step (by repeat (first | (with_reducible first | exact HB.out | apply below_alloc | apply pw_below_drewN | apply below_drew1) | exact HB.out)) hb); clear HB; have HB := n0_; clear n0_; (try clear hb); (try clear hb2); (try clear hk); (try clear hi)) | ((with_reducible refine gate_callee (f := 27) rfl ?_); refine goesL_ (some 17) rfl rfl Tryd.func27 (by kernel_rfl) rfl #[.string t146] rfl (by (try simp only [List.map_toArray, List.map_cons, List.map_nil]); first | done | rfl | (simp only [List.length_drop, List.length_take]; rfl)) ?_; (with_reducible refine (impl_AppendChecksum.calls k t146 t149 true _ A3.out (Tab.below HG_Tab.out (by repeat (first | (with_reducible first | exact HB.out | apply below_alloc | apply pw_below_drewN | apply below_drew1) | exact HB.out)))).mono ?_); rintro e w7 ⟨rfl, hb⟩; refine ⟨_, rfl, ?_⟩; have n0_ := Aside0.mk (below_step (by repeat (first | (with_reducible first | exact HB.out | apply below_alloc | apply pw_below_drewN | apply below_drew1) | exact HB.out)) hb); clear HB; have HB := n0_; clear n0_; (try clear hb); (try clear hb2); (try clear hk); (try clear hi)))
      go_ret2
      exact ⟨by first | rfl | (simp [errW_none, errW_some] <;> rfl) | (simp [*, errW_none, errW_some] <;> rfl), by repeat (first | (with_reducible first | exact HB.out | apply below_alloc | apply pw_below_drewN | apply below_drew1) | exact HB.out)⟩
    · rw [if_neg c5] at H
      have c5b0 : (t149.toList == a0.toList) = false := beq_eq_false_iff_ne.mpr c5
      have c5b1 : (t149.toList != a0.toList) = true := bne_iff_ne.mpr c5
      simp only [Option.some.injEq, Prod.mk.injEq] at H
      obtain ⟨rfl, rfl⟩ := H
      go_enter Tryd.func29, Tryd.ntmps29
      go_wp2_with (first | ((with_reducible refine gate_callee (f := 53) rfl ?_); refine goesL_ (some 11) rfl rfl Tryd.func53 (by kernel_rfl) rfl #[.string a0, .string (⟨#[35]⟩ : ByteArray)] rfl (by (try simp only [List.map_toArray, List.map_cons, List.map_nil]); first | done | rfl | (simp only [List.length_drop, List.length_take]; rfl)) ?_; (with_reducible refine (strings_Cut.calls a0 (⟨#[35]⟩ : ByteArray) t146 t147 t148 _ A2.out (MaxIs.below HG_MaxIs.out (by repeat (first | (with_reducible first | exact HB.out | apply below_alloc | apply pw_below_drewN | apply below_drew1) | exact HB.out)))).mono ?_); rintro e w8 ⟨rfl, hb⟩; refine ⟨_, rfl, ?_⟩; have n0_ := Aside0.mk (below_step (by repeat (first | (with_reducible first | exact HB.out | apply below_alloc | apply pw_below_drewN | apply below_drew1) | exact HB.out)) hb); clear HB; have HB := n0_; clear n0_; (try clear hb); (try clear hb2); (try clear hk); (try clear hi)) | ((with_reducible refine gate_callee (f := 27) rfl ?_); refine goesL_ (some 17) rfl rfl Tryd.func27 (by kernel_rfl) rfl #[.string t146] rfl (by (try simp only [List.map_toArray, List.map_cons, List.map_nil]); first | done | rfl | (simp only [List.length_drop, List.length_take]; rfl)) ?_; (with_reducible refine (impl_AppendChecksum.calls k t146 t149 true _ A3.out (Tab.below HG_Tab.out (by repeat (first | (with_reducible first | exact HB.out | apply below_alloc | apply pw_below_drewN | apply below_drew1) | exact HB.out)))).mono ?_); rintro e w9 ⟨rfl, hb⟩; refine ⟨_, rfl, ?_⟩; have n0_ := Aside0.mk (below_step (by repeat (first | (with_reducible first | exact HB.out | apply below_alloc | apply pw_below_drewN | apply below_drew1) | exact HB.out)) hb); clear HB; have HB := n0_; clear n0_; (try clear hb); (try clear hb2); (try clear hk); (try clear hi)))
      go_ret2
      exact ⟨by first | rfl | (simp [errW_none, errW_some] <;> rfl) | (simp [*, errW_none, errW_some] <;> rfl), by repeat (first | (with_reducible first | exact HB.out | apply below_alloc | apply pw_below_drewN | apply below_drew1) | exact HB.out)⟩
  · replace c4 := Bool.eq_false_iff.mpr c4
    subst c4
    have H1 : (some ((⟨#[]⟩ : ByteArray), false)) = some (r1, r2) := by rw [if_neg (show ¬ (false = true) by decide)] at H; exact H
    clear H
    have H := H1
    clear H1
    simp only [Option.some.injEq, Prod.mk.injEq] at H
    obtain ⟨rfl, rfl⟩ := H
    go_enter Tryd.func29, Tryd.ntmps29
    go_wp2_with (first | ((with_reducible refine gate_callee (f := 53) rfl ?_); refine goesL_ (some 11) rfl rfl Tryd.func53 (by kernel_rfl) rfl #[.string a0, .string (⟨#[35]⟩ : ByteArray)] rfl (by (try simp only [List.map_toArray, List.map_cons, List.map_nil]); first | done | rfl | (simp only [List.length_drop, List.length_take]; rfl)) ?_; (with_reducible refine (strings_Cut.calls a0 (⟨#[35]⟩ : ByteArray) t146 t147 t148 _ A2.out (MaxIs.below HG_MaxIs.out (by repeat (first | (with_reducible first | exact HB.out | apply below_alloc | apply pw_below_drewN | apply below_drew1) | exact HB.out)))).mono ?_); rintro e w10 ⟨rfl, hb⟩; refine ⟨_, rfl, ?_⟩; have n0_ := Aside0.mk (below_step (by repeat (first | (with_reducible first | exact HB.out | apply below_alloc | apply pw_below_drewN | apply below_drew1) | exact HB.out)) hb); clear HB; have HB := n0_; clear n0_; (try clear hb); (try clear hb2); (try clear hk); (try clear hi)) | ((with_reducible refine gate_callee (f := 27) rfl ?_); refine goesL_ (some 17) rfl rfl Tryd.func27 (by kernel_rfl) rfl #[.string t146] rfl (by (try simp only [List.map_toArray, List.map_cons, List.map_nil]); first | done | rfl | (simp only [List.length_drop, List.length_take]; rfl)) ?_; (with_reducible refine (impl_AppendChecksum.calls k t146 t149 false _ A3.out (Tab.below HG_Tab.out (by repeat (first | (with_reducible first | exact HB.out | apply below_alloc | apply pw_below_drewN | apply below_drew1) | exact HB.out)))).mono ?_); rintro e w11 ⟨rfl, hb⟩; refine ⟨_, rfl, ?_⟩; have n0_ := Aside0.mk (below_step (by repeat (first | (with_reducible first | exact HB.out | apply below_alloc | apply pw_below_drewN | apply below_drew1) | exact HB.out)) hb); clear HB; have HB := n0_; clear n0_; (try clear hb); (try clear hb2); (try clear hk); (try clear hi)))
    go_ret2
    exact ⟨by first | rfl | (simp [errW_none, errW_some] <;> rfl) | (simp [*, errW_none, errW_some] <;> rfl), by repeat (first | (with_reducible first | exact HB.out | apply below_alloc | apply pw_below_drewN | apply below_drew1) | exact HB.out)⟩
def laws_vAt.f (l0 : List Int) (a1 : Int) : Option (Int) := if a1 < (l0.length : Int) then (if 0 ≤ a1 then (some (wrap64 (rd l0 a1))) else (none)) else (some (Int.tmod (wrap64 ((wrap64 (a1 * 7)) + (l0.length : Int))) 256))
set_option maxHeartbeats 8000000 in
set_option maxRecDepth 100000 in
theorem laws_vAt.calls (A0 : Option Addr) (c0 : Nat) (l0 : List Int) (a1 : Int) (r : Int) (w : World) (hr0 : Kd.C (Kd.int .u8) w A0 l0.length l0) (hc0 : l0.length ≤ c0) (h : laws_vAt.f l0 a1 = some r) :
    Calls Tryd.prog 30 #[.slice A0 l0.length c0, .int .i64 a1] w fun e w' => e = .returned (.int .i64 r) ∧ Drawn0 w w' := by
  have HR0 := Aside0.mk hr0
  have HC0 := Aside0.mk hc0
  clear hr0 hc0
  have H : (if a1 < (l0.length : Int) then (if 0 ≤ a1 then (some (wrap64 (rd l0 a1))) else (none)) else (some (Int.tmod (wrap64 ((wrap64 (a1 * 7)) + (l0.length : Int))) 256))) = some r := h
  clear h
  by_cases c3 : a1 < (l0.length : Int)
  · rw [if_pos c3] at H
    have c3b0 : decide (a1 < (l0.length : Int)) = true := decide_eq_true c3
    clear c3
    by_cases c4 : 0 ≤ a1
    · rw [if_pos c4] at H
      have c4b0 : decide (0 ≤ a1) = true := decide_eq_true c4
      clear c4
      obtain rfl := Option.some.inj H
      have p151 : 0 ≤ (a1 : Int) := of_decide_eq_true (by first | (with_reducible assumption) | assumption)
      have q151 : a1 < (l0.length : Int) := of_decide_eq_true (by first | (with_reducible assumption) | assumption)
      obtain ⟨ad151, e151, hx151_0⟩ := Kd.at_int HR0.out a1 p151 q151
      cases e151
      replace p151 := eq_true p151
      replace q151 := eq_true q151
      go_enter Tryd.func30, Tryd.ntmps30
      go_wp2
      go_ret
      exact ⟨by first | rfl | (simp; done) | (simp [*]; done), by repeat (first | exact Drawn0.refl _ | apply Drawn0.step)⟩
    · rw [if_neg c4] at H
      exact absurd H (by simp)
  · rw [if_neg c3] at H
    have c3b0 : decide (a1 < (l0.length : Int)) = false := decide_eq_false c3
    clear c3
    obtain rfl := Option.some.inj H
    go_enter Tryd.func30, Tryd.ntmps30
    go_wp2
    go_ret
    exact ⟨by first | rfl | (simp; done) | (simp [*]; done), by repeat (first | exact Drawn0.refl _ | apply Drawn0.step)⟩
def laws_vBig.f (l0 : List Int) : Option (Bool) := some (decide ((l0.length : Int) > 65536))
set_option maxHeartbeats 8000000 in
set_option maxRecDepth 100000 in
theorem laws_vBig.calls (A0 : Option Addr) (c0 : Nat) (l0 : List Int) (r : Bool) (w : World) (hr0 : Kd.C (Kd.int .u8) w A0 l0.length l0) (hc0 : l0.length ≤ c0) (h : laws_vBig.f l0 = some r) :
    Calls Tryd.prog 9 #[.slice A0 l0.length c0] w fun e w' => e = .returned (.bool r) ∧ Drawn0 w w' := by
  have HR0 := Aside0.mk hr0
  have HC0 := Aside0.mk hc0
  clear hr0 hc0
  have H : (some (decide ((l0.length : Int) > 65536))) = some r := h
  clear h
  obtain rfl := Option.some.inj H
  go_enter Tryd.func9, Tryd.ntmps9
  go_wp2
  go_ret
  exact ⟨by first | rfl | (simp; done) | (simp [*]; done), by repeat (first | exact Drawn0.refl _ | apply Drawn0.step)⟩
end Go.Proofs.YtklddfkhbhkhdaaDoor.Q
namespace Go.Proofs.YtklddfkhbhkhdaaDoor.Q
open Go.RowKit Go.Proofs.YtklddfkhbhkhdaaDoorW.PrintWords Go.Proofs.YtklddfkhbhkhdaaDoorW.PrintLast Go.Proofs.YtklddfkhbhkhdaaDoorW.PrintMore
attribute [local go_sem] run_field_156 run_field_157 isSome_setCell max2_int min2_int max_two min_two max_three min_three max_four min_four   -- for this text's walks alone
set_option linter.unusedVariables false
set_option linter.unusedSimpArgs false
def impl_FormatInt.f (a0 : Int) : Option (ByteArray × Bool) := (impl_in.f a0 (-999999) 999999).bind fun t129 => (if t129 = true then ((strconv_Itoa.f a0).bind fun t130 => (some (t130, true))) else (some ((⟨#[]⟩ : ByteArray), false)))
set_option maxHeartbeats 8000000 in
set_option maxRecDepth 100000 in
theorem impl_FormatInt.calls (a0 : Int) (r1 : ByteArray) (r2 : Bool) (w : World) (h : impl_FormatInt.f a0 = some (r1, r2)) (hG_Tab : Tab w) :
    Calls Tryd.prog 21 #[.int .i64 a0] w fun e w' => e = .returned (.tuple #[.string r1, .bool r2]) ∧ Below w.heap.size w w' := by
  have HG_Tab := Aside0.mk hG_Tab
  clear hG_Tab
  have HB := Aside0.mk (Below.refl w.heap.size w)
  have H : ((impl_in.f a0 (-999999) 999999).bind fun t129 => (if t129 = true then ((strconv_Itoa.f a0).bind fun t130 => (some (t130, true))) else (some ((⟨#[]⟩ : ByteArray), false)))) = some (r1, r2) := h
  clear h
  replace H := Option.bind_eq_some_iff.mp H
  obtain ⟨t129, A20, H⟩ := H
  replace H : (if t129 = true then ((strconv_Itoa.f a0).bind fun t130 => (some (t130, true))) else (some ((⟨#[]⟩ : ByteArray), false))) = some (r1, r2) := H
  have A2 := Aside0.mk A20
  clear A20
  by_cases c3 : t129 = true
  · subst c3
    have H1 : ((strconv_Itoa.f a0).bind fun t130 => (some (t130, true))) = some (r1, r2) := by rw [if_pos rfl] at H; exact H
    clear H
    have H := H1
    clear H1
    replace H := Option.bind_eq_some_iff.mp H
    obtain ⟨t130, A40, H⟩ := H
    replace H : (some (t130, true)) = some (r1, r2) := H
    have A4 := Aside0.mk A40
    clear A40
    simp only [Option.some.injEq, Prod.mk.injEq] at H
    obtain ⟨rfl, rfl⟩ := H
    go_enter Tryd.func21, Tryd.ntmps21
    go_wp2_with (first | ((with_reducible refine gate_callee (f := 45) rfl ?_); refine goesL_ (some 5) rfl rfl Tryd.func45 (by kernel_rfl) rfl #[.int .i64 a0, .int .i64 (-999999), .int .i64 999999] rfl (by (try simp only [List.map_toArray, List.map_cons, List.map_nil]); first | done | rfl | (simp only [List.length_drop, List.length_take]; rfl)) ?_; (with_reducible refine (impl_in.calls a0 (-999999) 999999 true _ A2.out).mono ?_); rintro e w' ⟨rfl, ⟨nd, rfl⟩⟩; refine ⟨_, rfl, ?_⟩) | ((with_reducible refine gate_callee (f := 46) rfl ?_); refine goesL_ (some 8) rfl rfl Tryd.func46 (by kernel_rfl) rfl #[.int .i64 a0] rfl (by (try simp only [List.map_toArray, List.map_cons, List.map_nil]); first | done | rfl | (simp only [List.length_drop, List.length_take]; rfl)) ?_; (with_reducible refine (strconv_Itoa.calls a0 t130 _ A4.out (Tab.below HG_Tab.out (by repeat (first | (with_reducible first | exact HB.out | apply below_alloc | apply pw_below_drewN | apply below_drew1) | exact HB.out)))).mono ?_); rintro e w5 ⟨rfl, hb⟩; refine ⟨_, rfl, ?_⟩; have n0_ := Aside0.mk (below_step (by repeat (first | (with_reducible first | exact HB.out | apply below_alloc | apply pw_below_drewN | apply below_drew1) | exact HB.out)) hb); clear HB; have HB := n0_; clear n0_; (try clear hb); (try clear hb2); (try clear hk); (try clear hi)))
    go_ret2
    exact ⟨by first | rfl | (simp [errW_none, errW_some] <;> rfl) | (simp [*, errW_none, errW_some] <;> rfl), by repeat (first | (with_reducible first | exact HB.out | apply below_alloc | apply pw_below_drewN | apply below_drew1) | exact HB.out)⟩
  · replace c3 := Bool.eq_false_iff.mpr c3
    subst c3
    have H1 : (some ((⟨#[]⟩ : ByteArray), false)) = some (r1, r2) := by rw [if_neg (show ¬ (false = true) by decide)] at H; exact H
    clear H
    have H := H1
    clear H1
    simp only [Option.some.injEq, Prod.mk.injEq] at H
    obtain ⟨rfl, rfl⟩ := H
    go_enter Tryd.func21, Tryd.ntmps21
    go_wp2_with (first | ((with_reducible refine gate_callee (f := 45) rfl ?_); refine goesL_ (some 5) rfl rfl Tryd.func45 (by kernel_rfl) rfl #[.int .i64 a0, .int .i64 (-999999), .int .i64 999999] rfl (by (try simp only [List.map_toArray, List.map_cons, List.map_nil]); first | done | rfl | (simp only [List.length_drop, List.length_take]; rfl)) ?_; (with_reducible refine (impl_in.calls a0 (-999999) 999999 false _ A2.out).mono ?_); rintro e w' ⟨rfl, ⟨nd, rfl⟩⟩; refine ⟨_, rfl, ?_⟩))
    go_ret2
    exact ⟨by first | rfl | (simp [errW_none, errW_some] <;> rfl) | (simp [*, errW_none, errW_some] <;> rfl), by repeat (first | (with_reducible first | exact HB.out | apply below_alloc | apply pw_below_drewN | apply below_drew1) | exact HB.out)⟩
def spec_l1In.f (a0 : Int) (a1 : Int) (a2 : Int) : Option (Bool) := if a0 ≥ a1 then (some (decide (a0 ≤ a2))) else (some false)
set_option maxHeartbeats 8000000 in
set_option maxRecDepth 100000 in
theorem spec_l1In.calls (a0 : Int) (a1 : Int) (a2 : Int) (r : Bool) (w : World) (h : spec_l1In.f a0 a1 a2 = some r) :
    Calls Tryd.prog 47 #[.int .i64 a0, .int .i64 a1, .int .i64 a2] w fun e w' => e = .returned (.bool r) ∧ Drawn0 w w' := by
  have H : (if a0 ≥ a1 then (some (decide (a0 ≤ a2))) else (some false)) = some r := h
  clear h
  by_cases c4 : a0 ≥ a1
  · rw [if_pos c4] at H
    have c4b0 : decide (a1 ≤ a0) = true := decide_eq_true c4
    clear c4
    obtain rfl := Option.some.inj H
    go_enter Tryd.func47, Tryd.ntmps47
    go_wp2
    go_ret
    exact ⟨by first | rfl | (simp; done) | (simp [*]; done), by repeat (first | exact Drawn0.refl _ | apply Drawn0.step)⟩
  · rw [if_neg c4] at H
    have c4b0 : decide (a1 ≤ a0) = false := decide_eq_false c4
    clear c4
    obtain rfl := Option.some.inj H
    go_enter Tryd.func47, Tryd.ntmps47
    go_wp2
    go_ret
    exact ⟨by first | rfl | (simp; done) | (simp [*]; done), by repeat (first | exact Drawn0.refl _ | apply Drawn0.step)⟩
def spec_FormatInt.f (k : Nat) (a0 : Int) : Option (ByteArray × Bool) := (spec_l1In.f a0 (-999999) 999999).bind fun t131 => (if t131 = true then ((spec_l1Num.f k a0).bind fun t132 => (some (t132, true))) else (some ((⟨#[]⟩ : ByteArray), false)))
set_option maxHeartbeats 8000000 in
set_option maxRecDepth 100000 in
theorem spec_FormatInt.calls (k : Nat) (a0 : Int) (r1 : ByteArray) (r2 : Bool) (w : World) (h : spec_FormatInt.f k a0 = some (r1, r2)) :
    Calls Tryd.prog 22 #[.int .i64 a0] w fun e w' => e = .returned (.tuple #[.string r1, .bool r2]) ∧ Below w.heap.size w w' := by
  have HB := Aside0.mk (Below.refl w.heap.size w)
  have H : ((spec_l1In.f a0 (-999999) 999999).bind fun t131 => (if t131 = true then ((spec_l1Num.f k a0).bind fun t132 => (some (t132, true))) else (some ((⟨#[]⟩ : ByteArray), false)))) = some (r1, r2) := h
  clear h
  replace H := Option.bind_eq_some_iff.mp H
  obtain ⟨t131, A20, H⟩ := H
  replace H : (if t131 = true then ((spec_l1Num.f k a0).bind fun t132 => (some (t132, true))) else (some ((⟨#[]⟩ : ByteArray), false))) = some (r1, r2) := H
  have A2 := Aside0.mk A20
  clear A20
  by_cases c3 : t131 = true
  · subst c3
    have H1 : ((spec_l1Num.f k a0).bind fun t132 => (some (t132, true))) = some (r1, r2) := by rw [if_pos rfl] at H; exact H
    clear H
    have H := H1
    clear H1
    replace H := Option.bind_eq_some_iff.mp H
    obtain ⟨t132, A40, H⟩ := H
    replace H : (some (t132, true)) = some (r1, r2) := H
    have A4 := Aside0.mk A40
    clear A40
    simp only [Option.some.injEq, Prod.mk.injEq] at H
    obtain ⟨rfl, rfl⟩ := H
    go_enter Tryd.func22, Tryd.ntmps22
    go_wp2_with (first | ((with_reducible refine gate_callee (f := 47) rfl ?_); refine goesL_ (some 5) rfl rfl Tryd.func47 (by kernel_rfl) rfl #[.int .i64 a0, .int .i64 (-999999), .int .i64 999999] rfl (by (try simp only [List.map_toArray, List.map_cons, List.map_nil]); first | done | rfl | (simp only [List.length_drop, List.length_take]; rfl)) ?_; (with_reducible refine (spec_l1In.calls a0 (-999999) 999999 true _ A2.out).mono ?_); rintro e w' ⟨rfl, ⟨nd, rfl⟩⟩; refine ⟨_, rfl, ?_⟩) | ((with_reducible refine gate_callee (f := 48) rfl ?_); refine goesL_ (some 8) rfl rfl Tryd.func48 (by kernel_rfl) rfl #[.int .i64 a0] rfl (by (try simp only [List.map_toArray, List.map_cons, List.map_nil]); first | done | rfl | (simp only [List.length_drop, List.length_take]; rfl)) ?_; (with_reducible refine (spec_l1Num.calls k a0 t132 _ A4.out).mono ?_); rintro e w5 ⟨rfl, hb⟩; refine ⟨_, rfl, ?_⟩; have n0_ := Aside0.mk (below_step (by repeat (first | (with_reducible first | exact HB.out | apply below_alloc | apply pw_below_drewN | apply below_drew1) | exact HB.out)) hb); clear HB; have HB := n0_; clear n0_; (try clear hb); (try clear hb2); (try clear hk); (try clear hi)))
    go_ret2
    exact ⟨by first | rfl | (simp [errW_none, errW_some] <;> rfl) | (simp [*, errW_none, errW_some] <;> rfl), by repeat (first | (with_reducible first | exact HB.out | apply below_alloc | apply pw_below_drewN | apply below_drew1) | exact HB.out)⟩
  · replace c3 := Bool.eq_false_iff.mpr c3
    subst c3
    have H1 : (some ((⟨#[]⟩ : ByteArray), false)) = some (r1, r2) := by rw [if_neg (show ¬ (false = true) by decide)] at H; exact H
    clear H
    have H := H1
    clear H1
    simp only [Option.some.injEq, Prod.mk.injEq] at H
    obtain ⟨rfl, rfl⟩ := H
    go_enter Tryd.func22, Tryd.ntmps22
    go_wp2_with (first | ((with_reducible refine gate_callee (f := 47) rfl ?_); refine goesL_ (some 5) rfl rfl Tryd.func47 (by kernel_rfl) rfl #[.int .i64 a0, .int .i64 (-999999), .int .i64 999999] rfl (by (try simp only [List.map_toArray, List.map_cons, List.map_nil]); first | done | rfl | (simp only [List.length_drop, List.length_take]; rfl)) ?_; (with_reducible refine (spec_l1In.calls a0 (-999999) 999999 false _ A2.out).mono ?_); rintro e w' ⟨rfl, ⟨nd, rfl⟩⟩; refine ⟨_, rfl, ?_⟩))
    go_ret2
    exact ⟨by first | rfl | (simp [errW_none, errW_some] <;> rfl) | (simp [*, errW_none, errW_some] <;> rfl), by repeat (first | (with_reducible first | exact HB.out | apply below_alloc | apply pw_below_drewN | apply below_drew1) | exact HB.out)⟩
mutual
def spec_l1Read.j0 : Nat → ByteArray → ByteArray → Bool → Option (Int × Bool)
  | 0, _, _, _ => none
  | k + 1, x0, x4, x15 => if x15 = true then (if 1 ≤ (x4.size : Int) then (spec_l1Read.j1 k x0 (x4.extract 1 x4.size)) else (none)) else (spec_l1Read.j1 k x0 x4)
def spec_l1Read.j1 : Nat → ByteArray → ByteArray → Option (Int × Bool)
  | 0, _, _ => none
  | k + 1, x0, x4 => (spec_l1In.f (x4.size : Int) 1 6).bind fun t133 => (if t133 = true then (spec_l1Read.l0 k x0 x4 0 0) else (some (0, false)))
def spec_l1Read.l0 : Nat → ByteArray → ByteArray → Int → Int → Option (Int × Bool)
  | 0, _, _, _, _ => none
  | k + 1, x0, x4, x5, x6 => if x6 < (x4.size : Int) then (if 0 ≤ x6 then (if (bt x4 x6) < 48 then (some (0, false)) else (if (bt x4 x6) > 57 then (some (0, false)) else (spec_l1Read.l0 k x0 x4 (wrap64 ((wrap64 (10 * x5)) + (((bt x4 x6) - 48) % 256))) (wrap64 (x6 + 1))))) else (none)) else (if (x4.size : Int) < (x0.size : Int) then ((spec_l1Num.f k (wrap64 (-x5))).bind fun t134 => (if t134.toList = x0.toList then (some (wrap64 (-x5), true)) else (some (0, false)))) else ((spec_l1Num.f k x5).bind fun t135 => (if t135.toList = x0.toList then (some (x5, true)) else (some (0, false)))))
end
def spec_l1Read.f (k : Nat) (a0 : ByteArray) : Option (Int × Bool) := if (a0.size : Int) > 1 then (if 0 < (a0.size : Int) then (spec_l1Read.j0 k a0 a0 ((bt a0 0) == 45)) else (none)) else (spec_l1Read.j0 k a0 a0 false)
set_option maxHeartbeats 8000000 in
set_option maxRecDepth 100000 in
theorem spec_l1Read.calls (k : Nat) (a0 : ByteArray) (r1 : Int) (r2 : Bool) (w : World) (h : spec_l1Read.f k a0 = some (r1, r2)) :
    Calls Tryd.prog 50 #[.string a0] w fun e w' => e = .returned (.tuple #[.int .i64 r1, .bool r2]) ∧ Below w.heap.size w w' := by
  have HB := Aside0.mk (Below.refl w.heap.size w)
  have H : (if (a0.size : Int) > 1 then (if 0 < (a0.size : Int) then (spec_l1Read.j0 k a0 a0 ((bt a0 0) == 45)) else (none)) else (spec_l1Read.j0 k a0 a0 false)) = some (r1, r2) := h
  clear h
  have HC2 := Aside0.mk H
  clear H
  go_enter Tryd.func50, Tryd.ntmps50
  go_upto_region 2 with (fail)
  go_cut [15] (fun v15 wc => ∃ (kq : Nat) (x15_1 : Bool), v15 = .bool x15_1 ∧ Aside0 (spec_l1Read.j0 kq a0 a0 x15_1 = some (r1, r2)) ∧ Aside0 (kq ≤ k) ∧ Aside0 (Below w.heap.size w wc))
  case first =>
    have H := HC2.out
    clear HC2
    by_cases c3 : (a0.size : Int) > 1
    · rw [if_pos c3] at H
      have c3b0 : decide (1 < (a0.size : Int)) = true := decide_eq_true c3
      have c3b1 : decide (1 < a0.size) = true := decide_eq_true (by omega)
      clear c3
      (first | rw [c3b0] | (simp only [i64_w, i32_w]; rw [c3b0]) | skip)
      by_cases c4 : 0 < (a0.size : Int)
      · rw [if_pos c4] at H
        have c4b0 : decide (0 < (a0.size : Int)) = true := decide_eq_true c4
        have c4b1 : decide (0 < a0.size) = true := decide_eq_true (by omega)
        clear c4
        have H' := Aside0.mk H
        clear H
        have p5 : 0 ≤ (0 : Int) := (by omega)
        have q5 : 0 < a0.size := (by have : (0 : Int) < (a0.size : Int) := of_decide_eq_true (by first | (with_reducible assumption) | assumption); omega)
        have hx5 : ∀ h : 0 < a0.size, ((a0[0]'h).toNat : Int) = bt a0 0 := bt_at a0 0
        clear p5
        have qi5 : (0 < (a0.size : Int)) = True := eq_true (of_decide_eq_true (by first | (with_reducible assumption) | assumption))
        replace q5 := eq_true q5
        go_wp2
        go_meet
        case rel => exact ⟨_, (((bt a0 0) == 45)), (by first | rfl | (simp; done) | (simp [*]; done)), H', ⟨by first | omega | exact Nat.le_refl _⟩, ⟨by repeat (first | (with_reducible first | exact HB.out | apply below_alloc | apply pw_below_drewN | apply below_drew1) | exact HB.out)⟩⟩
      · rw [if_neg c4] at H
        exact absurd H (by simp)
    · rw [if_neg c3] at H
      have c3b0 : decide (1 < (a0.size : Int)) = false := decide_eq_false c3
      have c3b1 : decide (1 < a0.size) = false := decide_eq_false (by omega)
      clear c3
      (first | rw [c3b0] | (simp only [i64_w, i32_w]; rw [c3b0]) | skip)
      have H' := Aside0.mk H
      clear H
      go_wp2
      go_meet
      case rel => exact ⟨_, (false), (by first | rfl | (simp; done) | (simp [*]; done)), H', ⟨by first | omega | exact Nat.le_refl _⟩, ⟨by repeat (first | (with_reducible first | exact HB.out | apply below_alloc | apply pw_below_drewN | apply below_drew1) | exact HB.out)⟩⟩
  case rest =>
    clear HC2
    try clear p2
    try clear c3
    try clear c3b0
    try clear c3b1
    try clear c4
    try clear c4b0
    try clear c4b1
    try clear c5
    try clear p5
    try clear q5
    try clear hx5
    try clear qi5
    try clear p5
    try clear q5
    obtain ⟨kq, x15_1, rfl, HA, HJ1, HB⟩ := hcut
    cases kq with
    | zero => exact absurd HA.out (by simp [spec_l1Read.j0])
    | succ kj1 =>
      have H := HA.out
      clear HA
      simp only [spec_l1Read.j0] at H
      have HC6 := Aside0.mk H
      clear H
      go_upto_if 15 with (fail)
      go_cut [4] (fun v4 wc => ∃ (kq : Nat) (x4_5 : ByteArray), v4 = .string x4_5 ∧ Aside0 (spec_l1Read.j1 kq a0 x4_5 = some (r1, r2)) ∧ Aside0 (kq ≤ kj1) ∧ Aside0 (Below w.heap.size w wc))
      case first =>
        have H := HC6.out
        clear HC6
        by_cases c7 : x15_1 = true
        · subst c7
          have H1 : (if 1 ≤ (a0.size : Int) then (spec_l1Read.j1 kj1 a0 (a0.extract 1 a0.size)) else (none)) = some (r1, r2) := by rw [if_pos rfl] at H; exact H
          clear H
          have H := H1
          clear H1
          by_cases c8 : 1 ≤ (a0.size : Int)
          · rw [if_pos c8] at H
            have c8b0 := eq_true c8
            have c8b1 : decide (1 ≤ (a0.size : Int)) = true := decide_eq_true c8
            clear c8
            have H' := Aside0.mk H
            clear H
            go_wp2
            go_meet
            case rel => exact ⟨_, (a0.extract 1 a0.size), (by first | rfl | (simp; done) | (simp [*]; done)), H', ⟨by have := HJ1.out; first | omega | exact Nat.le_refl _⟩, ⟨by repeat (first | (with_reducible first | exact HB.out | apply below_alloc | apply pw_below_drewN | apply below_drew1) | exact HB.out)⟩⟩
          · rw [if_neg c8] at H
            exact absurd H (by simp)
        · replace c7 := Bool.eq_false_iff.mpr c7
          subst c7
          have H1 : (spec_l1Read.j1 kj1 a0 a0) = some (r1, r2) := by rw [if_neg (show ¬ (false = true) by decide)] at H; exact H
          clear H
          have H := H1
          clear H1
          have H' := Aside0.mk H
          clear H
          go_wp2
          go_meet
          case rel => exact ⟨_, (a0), (by first | rfl | (simp; done) | (simp [*]; done)), H', ⟨by have := HJ1.out; first | omega | exact Nat.le_refl _⟩, ⟨by repeat (first | (with_reducible first | exact HB.out | apply below_alloc | apply pw_below_drewN | apply below_drew1) | exact HB.out)⟩⟩
      case rest =>
        clear HC6
        try clear p2
        try clear c3
        try clear c3b0
        try clear c3b1
        try clear c4
        try clear c4b0
        try clear c4b1
        try clear c5
        try clear p5
        try clear q5
        try clear hx5
        try clear qi5
        try clear c7
        try clear c8
        try clear c8b0
        try clear c8b1
        try clear p2
        try clear p5
        try clear q5
        obtain ⟨kq, x4_5, rfl, HA, HJ5, HB⟩ := hcut
        cases kq with
        | zero => exact absurd HA.out (by simp [spec_l1Read.j1])
        | succ kj5 =>
          have H := HA.out
          clear HA
          simp only [spec_l1Read.j1] at H
          replace H := Option.bind_eq_some_iff.mp H
          obtain ⟨t133, A90, H⟩ := H
          replace H : (if t133 = true then (spec_l1Read.l0 kj5 a0 x4_5 0 0) else (some (0, false))) = some (r1, r2) := H
          have A9 := Aside0.mk A90
          clear A90
          by_cases c10 : t133 = true
          · subst c10
            have H1 : (spec_l1Read.l0 kj5 a0 x4_5 0 0) = some (r1, r2) := by rw [if_pos rfl] at H; exact H
            clear H
            have H := H1
            clear H1
            have H' := Aside0.mk H
            clear H
            go_wp2_with (first | ((with_reducible refine gate_callee (f := 47) rfl ?_); refine goesL_ (some 20) rfl rfl Tryd.func47 (by kernel_rfl) rfl #[.int .i64 (x4_5.size : Int), .int .i64 1, .int .i64 6] rfl (by (try simp only [List.map_toArray, List.map_cons, List.map_nil]); first | done | rfl | (simp only [List.length_drop, List.length_take]; rfl)) ?_; (with_reducible refine (spec_l1In.calls (x4_5.size : Int) 1 6 true _ A9.out).mono ?_); rintro e w' ⟨rfl, ⟨nd, rfl⟩⟩; refine ⟨_, rfl, ?_⟩))
            go_loopg [5, 6] kj5 (fun kq v5 v6 w' => ∃ (x5_3 : Int) (x6_3 : Int), v5 = .int .i64 x5_3 ∧ v6 = .int .i64 x6_3 ∧ Aside0 (spec_l1Read.l0 kq a0 x4_5 x5_3 x6_3 = some (r1, r2)) ∧ Aside0 (kq ≤ kj5) ∧ Aside0 (Below w.heap.size w w'))
            case atStart => exact ⟨(0), (0), (by first | rfl | (simp; done) | (simp [*]; done)), (by first | rfl | (simp; done) | (simp [*]; done)), H', ⟨Nat.le_refl _⟩, ⟨by repeat (first | (with_reducible first | exact HB.out | apply below_alloc | apply pw_below_drewN | apply below_drew1) | exact HB.out)⟩⟩
            case round =>
              clear H'
              try clear c1
              try clear p2
              try clear c3
              try clear c3b0
              try clear c3b1
              try clear c4
              try clear c4b0
              try clear c4b1
              try clear c5
              try clear p5
              try clear q5
              try clear hx5
              try clear qi5
              try clear c7
              try clear c8
              try clear c8b0
              try clear c8b1
              try clear c10
              try clear p2
              try clear p5
              try clear q5
              obtain ⟨x5_3, x6_3, rfl, rfl, HA, HK3, HB⟩ := hrel
              cases gk with
              | zero => exact absurd HA.out (by simp [spec_l1Read.l0])
              | succ k3 =>
                have H := HA.out
                clear HA
                simp only [spec_l1Read.l0] at H
                by_cases c11 : x6_3 < (x4_5.size : Int)
                · rw [if_pos c11] at H
                  have c11b0 : decide (x6_3 < (x4_5.size : Int)) = true := decide_eq_true c11
                  clear c11
                  by_cases c12 : 0 ≤ x6_3
                  · rw [if_pos c12] at H
                    have c12b0 : decide (0 ≤ x6_3) = true := decide_eq_true c12
                    clear c12
                    by_cases c14 : (bt x4_5 x6_3) < 48
                    · rw [if_pos c14] at H
                      have c14b0 : decide ((bt x4_5 x6_3) < 48) = true := decide_eq_true c14
                      clear c14
                      simp only [Option.some.injEq, Prod.mk.injEq] at H
                      obtain ⟨rfl, rfl⟩ := H
                      have p13 : 0 ≤ (x6_3 : Int) := of_decide_eq_true (by first | (with_reducible assumption) | assumption)
                      have q13 : x6_3 < (x4_5.size : Int) := of_decide_eq_true (by first | (with_reducible assumption) | assumption)
                      have hx13 := bt_at x4_5 x6_3
                      replace p13 := eq_true p13
                      replace q13 := eq_true q13
                      go_wp2
                      go_ret2
                      exact ⟨by first | rfl | (simp [errW_none, errW_some] <;> rfl) | (simp [*, errW_none, errW_some] <;> rfl), by repeat (first | (with_reducible first | exact HB.out | apply below_alloc | apply pw_below_drewN | apply below_drew1) | exact HB.out)⟩
                    · rw [if_neg c14] at H
                      have c14b0 : decide ((bt x4_5 x6_3) < 48) = false := decide_eq_false c14
                      clear c14
                      by_cases c16 : (bt x4_5 x6_3) > 57
                      · rw [if_pos c16] at H
                        have c16b0 : decide (57 < (bt x4_5 x6_3)) = true := decide_eq_true c16
                        clear c16
                        simp only [Option.some.injEq, Prod.mk.injEq] at H
                        obtain ⟨rfl, rfl⟩ := H
                        have p13 : 0 ≤ (x6_3 : Int) := of_decide_eq_true (by first | (with_reducible assumption) | assumption)
                        have q13 : x6_3 < (x4_5.size : Int) := of_decide_eq_true (by first | (with_reducible assumption) | assumption)
                        have hx13 := bt_at x4_5 x6_3
                        replace p13 := eq_true p13
                        replace q13 := eq_true q13
                        have p15 : 0 ≤ (x6_3 : Int) := of_decide_eq_true (by first | (with_reducible assumption) | assumption)
                        have q15 : x6_3 < (x4_5.size : Int) := of_decide_eq_true (by first | (with_reducible assumption) | assumption)
                        have hx15 := bt_at x4_5 x6_3
                        replace p15 := eq_true p15
                        replace q15 := eq_true q15
                        go_wp2
                        go_ret2
                        exact ⟨by first | rfl | (simp [errW_none, errW_some] <;> rfl) | (simp [*, errW_none, errW_some] <;> rfl), by repeat (first | (with_reducible first | exact HB.out | apply below_alloc | apply pw_below_drewN | apply below_drew1) | exact HB.out)⟩
                      · rw [if_neg c16] at H
                        have c16b0 : decide (57 < (bt x4_5 x6_3)) = false := decide_eq_false c16
                        clear c16
                        have H' := Aside0.mk H
                        clear H
                        have p13 : 0 ≤ (x6_3 : Int) := of_decide_eq_true (by first | (with_reducible assumption) | assumption)
                        have q13 : x6_3 < (x4_5.size : Int) := of_decide_eq_true (by first | (with_reducible assumption) | assumption)
                        have hx13 := bt_at x4_5 x6_3
                        replace p13 := eq_true p13
                        replace q13 := eq_true q13
                        have p15 : 0 ≤ (x6_3 : Int) := of_decide_eq_true (by first | (with_reducible assumption) | assumption)
                        have q15 : x6_3 < (x4_5.size : Int) := of_decide_eq_true (by first | (with_reducible assumption) | assumption)
                        have hx15 := bt_at x4_5 x6_3
                        replace p15 := eq_true p15
                        replace q15 := eq_true q15
                        have p17 : 0 ≤ (x6_3 : Int) := of_decide_eq_true (by first | (with_reducible assumption) | assumption)
                        have q17 : x6_3 < (x4_5.size : Int) := of_decide_eq_true (by first | (with_reducible assumption) | assumption)
                        have hx17 := bt_at x4_5 x6_3
                        replace p17 := eq_true p17
                        replace q17 := eq_true q17
                        go_wp2
                        go_roundg k3
                        case measure => have := HJ1.out; have := HJ5.out; have := HK3.out; omega
                        case rel => exact ⟨(wrap64 ((wrap64 (10 * x5_3)) + (((bt x4_5 x6_3) - 48) % 256))), (wrap64 (x6_3 + 1)), (by first | rfl | (simp; done) | (simp [*]; done)), (by first | rfl | (simp; done) | (simp [*]; done)), H', ⟨by have := HJ1.out; have := HJ5.out; have := HK3.out; omega⟩, ⟨by repeat (first | (with_reducible first | exact HB.out | apply below_alloc | apply pw_below_drewN | apply below_drew1) | exact HB.out)⟩⟩
                  · rw [if_neg c12] at H
                    exact absurd H (by simp)
                · rw [if_neg c11] at H
                  have c11b0 : decide (x6_3 < (x4_5.size : Int)) = false := decide_eq_false c11
                  clear c11
                  by_cases c18 : (x4_5.size : Int) < (a0.size : Int)
                  · rw [if_pos c18] at H
                    have c18b0 : decide ((x4_5.size : Int) < (a0.size : Int)) = true := decide_eq_true c18
                    have c18b1 : decide (x4_5.size < a0.size) = true := decide_eq_true (Int.ofNat_lt.mp c18)
                    clear c18
                    replace H := Option.bind_eq_some_iff.mp H
                    obtain ⟨t134, A190, H⟩ := H
                    replace H : (if t134.toList = a0.toList then (some (wrap64 (-x5_3), true)) else (some (0, false))) = some (r1, r2) := H
                    have A19 := Aside0.mk A190
                    clear A190
                    by_cases c20 : t134.toList = a0.toList
                    · rw [if_pos c20] at H
                      have c20b0 : (t134.toList == a0.toList) = true := beq_iff_eq.mpr c20
                      have c20b1 : (t134.toList != a0.toList) = false := bne_eq_false_iff_eq.mpr c20
                      clear c20
                      simp only [Option.some.injEq, Prod.mk.injEq] at H
                      obtain ⟨rfl, rfl⟩ := H
                      go_wp2_with (first | ((with_reducible refine gate_callee (f := 48) rfl ?_); refine goesL_ (some 54) rfl rfl Tryd.func48 (by kernel_rfl) rfl #[.int .i64 (wrap64 (-x5_3))] rfl (by (try simp only [List.map_toArray, List.map_cons, List.map_nil]); first | done | rfl | (simp only [List.length_drop, List.length_take]; rfl)) ?_; (with_reducible refine (spec_l1Num.calls k3 (wrap64 (-x5_3)) t134 _ A19.out).mono ?_); rintro e w21 ⟨rfl, hb⟩; refine ⟨_, rfl, ?_⟩; have n0_ := Aside0.mk (below_step (by repeat (first | (with_reducible first | exact HB.out | apply below_alloc | apply pw_below_drewN | apply below_drew1) | exact HB.out)) hb); clear HB; have HB := n0_; clear n0_; (try clear hb); (try clear hb2); (try clear hk); (try clear hi)))
                      go_ret2
                      exact ⟨by first | rfl | (simp [errW_none, errW_some] <;> rfl) | (simp [*, errW_none, errW_some] <;> rfl), by repeat (first | (with_reducible first | exact HB.out | apply below_alloc | apply pw_below_drewN | apply below_drew1) | exact HB.out)⟩
                    · rw [if_neg c20] at H
                      have c20b0 : (t134.toList == a0.toList) = false := beq_eq_false_iff_ne.mpr c20
                      have c20b1 : (t134.toList != a0.toList) = true := bne_iff_ne.mpr c20
                      simp only [Option.some.injEq, Prod.mk.injEq] at H
                      obtain ⟨rfl, rfl⟩ := H
                      go_wp2_with (first | ((with_reducible refine gate_callee (f := 48) rfl ?_); refine goesL_ (some 54) rfl rfl Tryd.func48 (by kernel_rfl) rfl #[.int .i64 (wrap64 (-x5_3))] rfl (by (try simp only [List.map_toArray, List.map_cons, List.map_nil]); first | done | rfl | (simp only [List.length_drop, List.length_take]; rfl)) ?_; (with_reducible refine (spec_l1Num.calls k3 (wrap64 (-x5_3)) t134 _ A19.out).mono ?_); rintro e w22 ⟨rfl, hb⟩; refine ⟨_, rfl, ?_⟩; have n0_ := Aside0.mk (below_step (by repeat (first | (with_reducible first | exact HB.out | apply below_alloc | apply pw_below_drewN | apply below_drew1) | exact HB.out)) hb); clear HB; have HB := n0_; clear n0_; (try clear hb); (try clear hb2); (try clear hk); (try clear hi)))
                      go_ret2
                      exact ⟨by first | rfl | (simp [errW_none, errW_some] <;> rfl) | (simp [*, errW_none, errW_some] <;> rfl), by repeat (first | (with_reducible first | exact HB.out | apply below_alloc | apply pw_below_drewN | apply below_drew1) | exact HB.out)⟩
                  · rw [if_neg c18] at H
                    have c18b0 : decide ((x4_5.size : Int) < (a0.size : Int)) = false := decide_eq_false c18
                    have c18b1 : decide (x4_5.size < a0.size) = false := decide_eq_false (fun h => c18 (Int.ofNat_lt.mpr h))
                    clear c18
                    replace H := Option.bind_eq_some_iff.mp H
                    obtain ⟨t135, A230, H⟩ := H
                    replace H : (if t135.toList = a0.toList then (some (x5_3, true)) else (some (0, false))) = some (r1, r2) := H
                    have A23 := Aside0.mk A230
                    clear A230
                    by_cases c24 : t135.toList = a0.toList
                    · rw [if_pos c24] at H
                      have c24b0 : (t135.toList == a0.toList) = true := beq_iff_eq.mpr c24
                      have c24b1 : (t135.toList != a0.toList) = false := bne_eq_false_iff_eq.mpr c24
                      clear c24
                      simp only [Option.some.injEq, Prod.mk.injEq] at H
                      obtain ⟨rfl, rfl⟩ := H
                      go_wp2_with (first | ((with_reducible refine gate_callee (f := 48) rfl ?_); refine goesL_ (some 54) rfl rfl Tryd.func48 (by kernel_rfl) rfl #[.int .i64 x5_3] rfl (by (try simp only [List.map_toArray, List.map_cons, List.map_nil]); first | done | rfl | (simp only [List.length_drop, List.length_take]; rfl)) ?_; (with_reducible refine (spec_l1Num.calls k3 x5_3 t135 _ A23.out).mono ?_); rintro e w25 ⟨rfl, hb⟩; refine ⟨_, rfl, ?_⟩; have n0_ := Aside0.mk (below_step (by repeat (first | (with_reducible first | exact HB.out | apply below_alloc | apply pw_below_drewN | apply below_drew1) | exact HB.out)) hb); clear HB; have HB := n0_; clear n0_; (try clear hb); (try clear hb2); (try clear hk); (try clear hi)))
                      go_ret2
                      exact ⟨by first | rfl | (simp [errW_none, errW_some] <;> rfl) | (simp [*, errW_none, errW_some] <;> rfl), by repeat (first | (with_reducible first | exact HB.out | apply below_alloc | apply pw_below_drewN | apply below_drew1) | exact HB.out)⟩
                    · rw [if_neg c24] at H
                      have c24b0 : (t135.toList == a0.toList) = false := beq_eq_false_iff_ne.mpr c24
                      have c24b1 : (t135.toList != a0.toList) = true := bne_iff_ne.mpr c24
                      simp only [Option.some.injEq, Prod.mk.injEq] at H
                      obtain ⟨rfl, rfl⟩ := H
                      go_wp2_with (first | ((with_reducible refine gate_callee (f := 48) rfl ?_); refine goesL_ (some 54) rfl rfl Tryd.func48 (by kernel_rfl) rfl #[.int .i64 x5_3] rfl (by (try simp only [List.map_toArray, List.map_cons, List.map_nil]); first | done | rfl | (simp only [List.length_drop, List.length_take]; rfl)) ?_; (with_reducible refine (spec_l1Num.calls k3 x5_3 t135 _ A23.out).mono ?_); rintro e w26 ⟨rfl, hb⟩; refine ⟨_, rfl, ?_⟩; have n0_ := Aside0.mk (below_step (by repeat (first | (with_reducible first | exact HB.out | apply below_alloc | apply pw_below_drewN | apply below_drew1) | exact HB.out)) hb); clear HB; have HB := n0_; clear n0_; (try clear hb); (try clear hb2); (try clear hk); (try clear hi)))
                      go_ret2
                      exact ⟨by first | rfl | (simp [errW_none, errW_some] <;> rfl) | (simp [*, errW_none, errW_some] <;> rfl), by repeat (first | (with_reducible first | exact HB.out | apply below_alloc | apply pw_below_drewN | apply below_drew1) | exact HB.out)⟩
          · replace c10 := Bool.eq_false_iff.mpr c10
            subst c10
            have H1 : (some (0, false)) = some (r1, r2) := by rw [if_neg (show ¬ (false = true) by decide)] at H; exact H
            clear H
            have H := H1
            clear H1
            simp only [Option.some.injEq, Prod.mk.injEq] at H
            obtain ⟨rfl, rfl⟩ := H
            go_wp2_with (first | ((with_reducible refine gate_callee (f := 47) rfl ?_); refine goesL_ (some 20) rfl rfl Tryd.func47 (by kernel_rfl) rfl #[.int .i64 (x4_5.size : Int), .int .i64 1, .int .i64 6] rfl (by (try simp only [List.map_toArray, List.map_cons, List.map_nil]); first | done | rfl | (simp only [List.length_drop, List.length_take]; rfl)) ?_; (with_reducible refine (spec_l1In.calls (x4_5.size : Int) 1 6 false _ A9.out).mono ?_); rintro e w' ⟨rfl, ⟨nd, rfl⟩⟩; refine ⟨_, rfl, ?_⟩))
            go_ret2
            exact ⟨by first | rfl | (simp [errW_none, errW_some] <;> rfl) | (simp [*, errW_none, errW_some] <;> rfl), by repeat (first | (with_reducible first | exact HB.out | apply below_alloc | apply pw_below_drewN | apply below_drew1) | exact HB.out)⟩
def spec_ParseInt.f (k : Nat) (a0 : ByteArray) : Option (Int × Bool) := (spec_l1Read.f k a0).bind fun bt136 => (some (bt136.1, bt136.2))
set_option maxHeartbeats 8000000 in
set_option maxRecDepth 100000 in
theorem spec_ParseInt.calls (k : Nat) (a0 : ByteArray) (r1 : Int) (r2 : Bool) (w : World) (h : spec_ParseInt.f k a0 = some (r1, r2)) :
    Calls Tryd.prog 25 #[.string a0] w fun e w' => e = .returned (.tuple #[.int .i64 r1, .bool r2]) ∧ Below w.heap.size w w' := by
  have HB := Aside0.mk (Below.refl w.heap.size w)
  have H : ((spec_l1Read.f k a0).bind fun bt136 => (some (bt136.1, bt136.2))) = some (r1, r2) := h
  clear h
  replace H := Option.bind_eq_some_iff.mp H
  obtain ⟨⟨t136, t137⟩, A20, H⟩ := H
  replace H : (some (t136, t137)) = some (r1, r2) := H
  have A2 := Aside0.mk A20
  clear A20
  simp only [Option.some.injEq, Prod.mk.injEq] at H
  obtain ⟨rfl, rfl⟩ := H
  go_enter Tryd.func25, Tryd.ntmps25
  go_wp2_with (first | ((with_reducible refine gate_callee (f := 50) rfl ?_); refine goesL_ (some 5) rfl rfl Tryd.func50 (by kernel_rfl) rfl #[.string a0] rfl (by (try simp only [List.map_toArray, List.map_cons, List.map_nil]); first | done | rfl | (simp only [List.length_drop, List.length_take]; rfl)) ?_; (with_reducible refine (spec_l1Read.calls k a0 t136 t137 _ A2.out).mono ?_); rintro e w3 ⟨rfl, hb⟩; refine ⟨_, rfl, ?_⟩; have n0_ := Aside0.mk (below_step (by repeat (first | (with_reducible first | exact HB.out | apply below_alloc | apply pw_below_drewN | apply below_drew1) | exact HB.out)) hb); clear HB; have HB := n0_; clear n0_; (try clear hb); (try clear hb2); (try clear hk); (try clear hi)))
  go_ret2
  exact ⟨by first | rfl | (simp [errW_none, errW_some] <;> rfl) | (simp [*, errW_none, errW_some] <;> rfl), by repeat (first | (with_reducible first | exact HB.out | apply below_alloc | apply pw_below_drewN | apply below_drew1) | exact HB.out)⟩
end Go.Proofs.YtklddfkhbhkhdaaDoor.Q
namespace Go.Proofs.YtklddfkhbhkhdaaDoor.Q
open Go.RowKit Go.Proofs.YtklddfkhbhkhdaaDoorW.PrintWords Go.Proofs.YtklddfkhbhkhdaaDoorW.PrintLast Go.Proofs.YtklddfkhbhkhdaaDoorW.PrintMore
set_option linter.unusedVariables false
structure Strs (k : Nat) (l0 : List Int) (n : Int) (s : ByteArray) (ok : Bool) (t : ByteArray) (m : Int) (fine : Bool) (x y : ByteArray) (sealed : Bool) (back : Int) (there : Bool) : Prop where
  dn : spec_DrawFormatInt.f l0 = some n
  i1 : impl_FormatInt.f n = some (s, ok)
  s1 : spec_FormatInt.f k n = some (s, ok)
  dt : spec_DrawParseInt.f k l0 = some t
  i2 : impl_ParseInt.f t = some (m, fine)
  s2 : spec_ParseInt.f k t = some (m, fine)
  dx : spec_DrawAppendChecksum.f l0 = some x
  i3 : impl_AppendChecksum.f k x = some (y, sealed)
  s3 : spec_AppendChecksum.f k x = some (y, sealed)
  b1 : impl_ParseInt.f s = some (back, there)
  b2 : ok = true → there = true ∧ back = n
structure Seal (k : Nat) (l0 : List Int) (x y : ByteArray) (c9 c10 : Int) (q : Nat) (e v : Int) (y2 z : ByteArray) : Prop where
  v1 : impl_VerifyChecksum.f k y = some (x, true)
  a9 : laws_vAt.f l0 9 = some c9
  a10 : laws_vAt.f l0 10 = some c10
  sz : y.size ≤ 5000
  kq : Int.tmod c9 (y.size : Int) = (q : Int)
  lq : q < y.size
  ke : IntKind.u8.wrap (wrap64 (1 + Int.tmod c10 255)) = e
  v0 : 0 ≤ v ∧ v ≤ 255
  xv : ∀ h : q < y.data.size, Go.bits .xor .u8 (y.data[q].toNat : Int) e = v
  yy : y2 = ⟨(y.data.toList.set q (UInt8.ofNat v.toNat)).toArray⟩
  v2 : impl_VerifyChecksum.f k y2 = some (z, false)
theorem by_key1 {G P : Prop} (h : Aside0 G → P) (g : G) : P := h ⟨g⟩
theorem conv_bytes (w : World) (y : ByteArray) : ∃ cap W, (convert 9 25 (.string y)).run Tryd.prog w = .ok (.slice (some ⟨w.heap.size, 0, none⟩) y.size cap) W ∧ Below w.heap.size w W ∧ w.heap.size < W.heap.size ∧ (∀ j (h : j < y.size), W.cell? ⟨w.heap.size, j, none⟩ = some (.int .u8 (y.data[j].toNat : Int))) ∧ (∀ j, j < y.size → W.frozen? ⟨w.heap.size, j, none⟩ = false) := by
  refine ⟨_, _, run_bytes_of_string w _ _ 5 y Tryd.underlying9 Tryd.underlying25 Tryd.underlying5, (Below.refl w.heap.size w).drew.alloc (Nat.le_refl _) _, by simp, fun j h => ?_, fun j h => ?_⟩
  · have hh := heap_alloc_new w.drew (.cells (bytesRow y (grownCap w y.size 0 5)) 5 ((bytesRow y (grownCap w y.size 0 5)).size, (bytesRow y (grownCap w y.size 0 5)).size + 1))
    have hh2 : (w.drew.alloc (.cells (bytesRow y (grownCap w y.size 0 5)) 5 ((bytesRow y (grownCap w y.size 0 5)).size, (bytesRow y (grownCap w y.size 0 5)).size + 1))).heap[w.heap.size]? = _ := hh
    simp only [World.cell?]
    rw [hh2]
    exact bytesRow_at y _ j h
  · have hh := heap_alloc_new w.drew (.cells (bytesRow y (grownCap w y.size 0 5)) 5 ((bytesRow y (grownCap w y.size 0 5)).size, (bytesRow y (grownCap w y.size 0 5)).size + 1))
    have hh2 : (w.drew.alloc (.cells (bytesRow y (grownCap w y.size 0 5)) 5 ((bytesRow y (grownCap w y.size 0 5)).size, (bytesRow y (grownCap w y.size 0 5)).size + 1))).heap[w.heap.size]? = _ := hh
    simp only [World.frozen?]
    rw [hh2]
    have hz : j < (bytesRow y (grownCap w y.size 0 5)).size := by
      have := bytesRow_at y (grownCap w y.size 0 5) j h
      exact (Array.getElem?_eq_some_iff.1 this).1
    simp
    omega
theorem conv_back (W : World) (G q cap : Nat) (y : ByteArray) (v : Int) (hq : q < y.size) (h0 : 0 ≤ v ∧ v ≤ 255) (hc : ∀ j (h : j < y.size), W.cell? ⟨G, j, none⟩ = some (.int .u8 (y.data[j].toNat : Int))) :
    (convert 25 9 (.slice (some ⟨G, 0, none⟩) y.size cap)).run Tryd.prog (W.setCell ⟨G, q, none⟩ (.int .u8 v)) = .ok (.string ⟨(y.data.toList.set q (UInt8.ofNat v.toNat)).toArray⟩) (W.setCell ⟨G, q, none⟩ (.int .u8 v)) := by
  have h := run_convert_bytes_back (P := Tryd.prog) (W.setCell ⟨G, q, none⟩ (.int .u8 v)) 25 9 5 ⟨G, 0, none⟩ cap (y.data.toList.set q (UInt8.ofNat v.toNat)) Tryd.underlying25 Tryd.underlying5 Tryd.underlying9 (fun j hj => by
    have hj2 : j < y.size := by rw [List.length_set, Array.length_toList] at hj; exact hj
    have e1 : (⟨G, 0, none⟩ : Addr).add j = ⟨G, j, none⟩ := by simp [Addr.add]; omega
    rw [e1]
    by_cases e : j = q
    · subst e
      rw [World.cell?_setCell_same _ _ _ (hc j hq)]
      have hv : (UInt8.ofNat v.toNat).toNat = v.toNat := UInt8.toNat_ofNat_of_lt' (by have : UInt8.size = 256 := rfl; omega)
      rw [List.getElem_set_self, hv]
      rw [show ((v.toNat : Nat) : Int) = v by omega]
    · rw [World.cell?_setCell_other _ _ _ _ (fun e2 => e (by injection e2 with _ e2; exact e2.symm)), hc j hj2]
      rw [List.getElem_set_ne (fun e2 => e e2.symm)]
      rfl)
  rw [List.length_set, Array.length_toList] at h
  exact h
theorem d0_below {w0 w w' : World} (hb : Below w0.heap.size w0 w) (h : Drawn0 w w') : Below w0.heap.size w0 w' := hb.trans (h.below.mono hb.size)
set_option maxHeartbeats 2000000 in
set_option maxRecDepth 100000 in
theorem strs_walk (k : Nat) (A0 : Option Addr) (c0 : Nat) (l0 : List Int) (w : World) (hr0 : Kd.C (Kd.int .u8) w A0 l0.length l0) (hc0 : l0.length ≤ c0) (hbig : ¬ (l0.length : Int) > 65536) {n : Int} {s t x y : ByteArray} {ok fine sealed there : Bool} {m back : Int} (h : Strs k l0 n s ok t m fine x y sealed back there) (hy : sealed = false → y = ⟨#[]⟩) {c9 c10 e v : Int} {q : Nat} {y2 z : ByteArray} (hse : sealed = true → Seal k l0 x y c9 c10 q e v y2 z) (hG_Tab : Tab w) (hG_MaxIs : MaxIs w) (hG_Errs : Errs w) :
    Calls Tryd.prog 6 #[.slice A0 l0.length c0] w fun e w' => e = .returned (.bool true) ∧ Below w.heap.size w w' := by
  have HR := Aside0.mk hr0
  have HC := Aside0.mk hc0
  have HS := Aside0.mk h
  have HV : Aside0 (laws_vBig.f l0 = some false) := ⟨by unfold laws_vBig.f; rw [decide_eq_false hbig]⟩
  have HT := Aside0.mk hG_Tab
  have HM := Aside0.mk hG_MaxIs
  have HE := Aside0.mk hG_Errs
  have HB := Aside0.mk (Below.refl w.heap.size w)
  clear hr0 hc0 h hG_Tab hG_MaxIs hG_Errs hbig
  cases sealed with
  | false =>
    cases ok with
    | false =>
      have hye := hy rfl
      subst hye
      clear hse hy
      go_enter Tryd.func6, Tryd.ntmps6
      go_wp2_with (first
        | (go_at_call 9; refine (laws_vBig.calls A0 c0 l0 false _ HR.out HC.out HV.out).mono ?_; rintro e w1 ⟨rfl, hd⟩; have HB1 := Aside0.mk (d0_below HB.out hd); clear hd)
        | (go_at_call 20; refine (spec_DrawFormatInt.calls A0 c0 l0 n _ (Kd.C_below HR.out HB1.out) HC.out HS.out.dn).mono ?_; rintro e w2 ⟨rfl, hb⟩; have HB2 := Aside0.mk (HB1.out.trans (hb.mono HB1.out.size)); clear hb)
        | (go_at_call 21; refine (impl_FormatInt.calls n s false _ HS.out.i1 (HT.out.below HB2.out)).mono ?_; rintro e w3 ⟨rfl, hb⟩; have HB3 := Aside0.mk (HB2.out.trans (hb.mono HB2.out.size)); clear hb)
        | (go_at_call 22; refine (spec_FormatInt.calls k n s false _ HS.out.s1).mono ?_; rintro e w4 ⟨rfl, hb⟩; have HB4 := Aside0.mk (HB3.out.trans (hb.mono HB3.out.size)); clear hb)
        | (go_at_call 23; refine (spec_DrawParseInt.calls k A0 c0 l0 t _ (Kd.C_below HR.out HB4.out) HC.out HS.out.dt).mono ?_; rintro e w5 ⟨rfl, hb⟩; have HB5 := Aside0.mk (HB4.out.trans (hb.mono HB4.out.size)); clear hb)
        | (go_at_call 24; with_reducible refine (impl_ParseInt.calls t m fine _ HS.out.i2 (HT.out.below HB5.out) (HE.out.below HB5.out)).mono ?_; rintro e w6 ⟨rfl, hb⟩; have HB6 := Aside0.mk (HB5.out.trans (hb.mono HB5.out.size)); clear hb)
        | (go_at_call 25; refine (spec_ParseInt.calls k t m fine _ HS.out.s2).mono ?_; rintro e w7 ⟨rfl, hb⟩; have HB7 := Aside0.mk (HB6.out.trans (hb.mono HB6.out.size)); clear hb)
        | (go_at_call 26; refine (spec_DrawAppendChecksum.calls A0 c0 l0 x _ (Kd.C_below HR.out HB7.out) HC.out HS.out.dx).mono ?_; rintro e w8 ⟨rfl, hb⟩; have HB8 := Aside0.mk (HB7.out.trans (hb.mono HB7.out.size)); clear hb)
        | (go_at_call 27; refine (impl_AppendChecksum.calls k x _ false _ HS.out.i3 (HT.out.below HB8.out)).mono ?_; rintro e w9 ⟨rfl, hb⟩; have HB9 := Aside0.mk (HB8.out.trans (hb.mono HB8.out.size)); clear hb)
        | (go_at_call 28; refine (spec_AppendChecksum.calls k x _ false _ HS.out.s3).mono ?_; rintro e w10 ⟨rfl, hb⟩; have HB10 := Aside0.mk (HB9.out.trans (hb.mono HB9.out.size)); clear hb)
        | (go_at_call 24; with_reducible refine (impl_ParseInt.calls s back there _ HS.out.b1 (HT.out.below HB10.out) (HE.out.below HB10.out)).mono ?_; rintro e w11 ⟨rfl, hb⟩; have HB11 := Aside0.mk (HB10.out.trans (hb.mono HB10.out.size)); clear hb))
      go_ret
      exact ⟨rfl, HB11.out⟩
    | true =>
      obtain ⟨rfl, rfl⟩ := HS.out.b2 rfl
      have hye := hy rfl
      subst hye
      clear hse hy
      go_enter Tryd.func6, Tryd.ntmps6
      go_wp2_with (first
        | (go_at_call 9; refine (laws_vBig.calls A0 c0 l0 false _ HR.out HC.out HV.out).mono ?_; rintro e w1 ⟨rfl, hd⟩; have HB1 := Aside0.mk (d0_below HB.out hd); clear hd)
        | (go_at_call 20; refine (spec_DrawFormatInt.calls A0 c0 l0 back _ (Kd.C_below HR.out HB1.out) HC.out HS.out.dn).mono ?_; rintro e w2 ⟨rfl, hb⟩; have HB2 := Aside0.mk (HB1.out.trans (hb.mono HB1.out.size)); clear hb)
        | (go_at_call 21; refine (impl_FormatInt.calls back s true _ HS.out.i1 (HT.out.below HB2.out)).mono ?_; rintro e w3 ⟨rfl, hb⟩; have HB3 := Aside0.mk (HB2.out.trans (hb.mono HB2.out.size)); clear hb)
        | (go_at_call 22; refine (spec_FormatInt.calls k back s true _ HS.out.s1).mono ?_; rintro e w4 ⟨rfl, hb⟩; have HB4 := Aside0.mk (HB3.out.trans (hb.mono HB3.out.size)); clear hb)
        | (go_at_call 23; refine (spec_DrawParseInt.calls k A0 c0 l0 t _ (Kd.C_below HR.out HB4.out) HC.out HS.out.dt).mono ?_; rintro e w5 ⟨rfl, hb⟩; have HB5 := Aside0.mk (HB4.out.trans (hb.mono HB4.out.size)); clear hb)
        | (go_at_call 24; with_reducible refine (impl_ParseInt.calls t m fine _ HS.out.i2 (HT.out.below HB5.out) (HE.out.below HB5.out)).mono ?_; rintro e w6 ⟨rfl, hb⟩; have HB6 := Aside0.mk (HB5.out.trans (hb.mono HB5.out.size)); clear hb)
        | (go_at_call 25; refine (spec_ParseInt.calls k t m fine _ HS.out.s2).mono ?_; rintro e w7 ⟨rfl, hb⟩; have HB7 := Aside0.mk (HB6.out.trans (hb.mono HB6.out.size)); clear hb)
        | (go_at_call 26; refine (spec_DrawAppendChecksum.calls A0 c0 l0 x _ (Kd.C_below HR.out HB7.out) HC.out HS.out.dx).mono ?_; rintro e w8 ⟨rfl, hb⟩; have HB8 := Aside0.mk (HB7.out.trans (hb.mono HB7.out.size)); clear hb)
        | (go_at_call 27; refine (impl_AppendChecksum.calls k x _ false _ HS.out.i3 (HT.out.below HB8.out)).mono ?_; rintro e w9 ⟨rfl, hb⟩; have HB9 := Aside0.mk (HB8.out.trans (hb.mono HB8.out.size)); clear hb)
        | (go_at_call 28; refine (spec_AppendChecksum.calls k x _ false _ HS.out.s3).mono ?_; rintro e w10 ⟨rfl, hb⟩; have HB10 := Aside0.mk (HB9.out.trans (hb.mono HB9.out.size)); clear hb)
        | (go_at_call 24; with_reducible refine (impl_ParseInt.calls s back true _ HS.out.b1 (HT.out.below HB10.out) (HE.out.below HB10.out)).mono ?_; rintro e w11 ⟨rfl, hb⟩; have HB11 := Aside0.mk (HB10.out.trans (hb.mono HB10.out.size)); clear hb))
      go_ret
      exact ⟨rfl, HB11.out⟩
  | true =>
    cases ok with
    | false =>
      have HY := Aside0.mk (hse rfl)
      clear hse hy
      go_enter Tryd.func6, Tryd.ntmps6
      go_wp2_with (first
        | (go_at_call 9; refine (laws_vBig.calls A0 c0 l0 false _ HR.out HC.out HV.out).mono ?_; rintro e w1 ⟨rfl, hd⟩; have HB1 := Aside0.mk (d0_below HB.out hd); clear hd)
        | (go_at_call 20; refine (spec_DrawFormatInt.calls A0 c0 l0 n _ (Kd.C_below HR.out HB1.out) HC.out HS.out.dn).mono ?_; rintro e w2 ⟨rfl, hb⟩; have HB2 := Aside0.mk (HB1.out.trans (hb.mono HB1.out.size)); clear hb)
        | (go_at_call 21; refine (impl_FormatInt.calls n s false _ HS.out.i1 (HT.out.below HB2.out)).mono ?_; rintro e w3 ⟨rfl, hb⟩; have HB3 := Aside0.mk (HB2.out.trans (hb.mono HB2.out.size)); clear hb)
        | (go_at_call 22; refine (spec_FormatInt.calls k n s false _ HS.out.s1).mono ?_; rintro e w4 ⟨rfl, hb⟩; have HB4 := Aside0.mk (HB3.out.trans (hb.mono HB3.out.size)); clear hb)
        | (go_at_call 23; refine (spec_DrawParseInt.calls k A0 c0 l0 t _ (Kd.C_below HR.out HB4.out) HC.out HS.out.dt).mono ?_; rintro e w5 ⟨rfl, hb⟩; have HB5 := Aside0.mk (HB4.out.trans (hb.mono HB4.out.size)); clear hb)
        | (go_at_call 24; with_reducible refine (impl_ParseInt.calls t m fine _ HS.out.i2 (HT.out.below HB5.out) (HE.out.below HB5.out)).mono ?_; rintro e w6 ⟨rfl, hb⟩; have HB6 := Aside0.mk (HB5.out.trans (hb.mono HB5.out.size)); clear hb)
        | (go_at_call 25; refine (spec_ParseInt.calls k t m fine _ HS.out.s2).mono ?_; rintro e w7 ⟨rfl, hb⟩; have HB7 := Aside0.mk (HB6.out.trans (hb.mono HB6.out.size)); clear hb)
        | (go_at_call 26; refine (spec_DrawAppendChecksum.calls A0 c0 l0 x _ (Kd.C_below HR.out HB7.out) HC.out HS.out.dx).mono ?_; rintro e w8 ⟨rfl, hb⟩; have HB8 := Aside0.mk (HB7.out.trans (hb.mono HB7.out.size)); clear hb)
        | (go_at_call 27; refine (impl_AppendChecksum.calls k x y true _ HS.out.i3 (HT.out.below HB8.out)).mono ?_; rintro e w9 ⟨rfl, hb⟩; have HB9 := Aside0.mk (HB8.out.trans (hb.mono HB8.out.size)); clear hb)
        | (go_at_call 28; refine (spec_AppendChecksum.calls k x y true _ HS.out.s3).mono ?_; rintro e w10 ⟨rfl, hb⟩; have HB10 := Aside0.mk (HB9.out.trans (hb.mono HB9.out.size)); clear hb)
        | (go_at_call 24; with_reducible refine (impl_ParseInt.calls s back there _ HS.out.b1 (HT.out.below HB10.out) (HE.out.below HB10.out)).mono ?_; rintro e w11 ⟨rfl, hb⟩; have HB11 := Aside0.mk (HB10.out.trans (hb.mono HB10.out.size)); clear hb)
        | (go_at_call 29; with_reducible refine (impl_VerifyChecksum.calls k y x true _ HY.out.v1 (HM.out.below HB11.out) (HT.out.below HB11.out)).mono ?_; rintro e w12 ⟨rfl, hb⟩; have HB12 := Aside0.mk (HB11.out.trans (hb.mono HB11.out.size)); clear hb))
      obtain ⟨cap, w13, hcv, hb13, hlt, hce, hfr⟩ := conv_bytes w12 y
      have HB13 := Aside0.mk (HB12.out.trans (hb13.mono HB12.out.size))
      have HCE := Aside0.mk hce
      have HFR := Aside0.mk hfr
      have hlq := HY.out.lq
      have hkq := HY.out.kq
      have hke := HY.out.ke
      have hy0 : ((y.size : Int) = 0) = False := eq_false (by omega)
      have hy1 : ((y.size : Int) == 0) = false := by rw [beq_eq_false_iff_ne]; omega
      have hq0 := HCE.out q hlq
      have hq1 := HFR.out q hlq
      clear hb13 hce hfr
      go_simp
      clear hcv
      go_wp2_with (go_at_call 30; with_reducible refine (laws_vAt.calls A0 c0 l0 9 c9 _ (Kd.C_below HR.out HB13.out) HC.out HY.out.a9).mono ?_; rintro e w14 ⟨rfl, hd⟩; obtain ⟨⟨n14, rfl⟩⟩ := hd)
      have HB14 : Aside0 (Below w.heap.size w (w13.drewN n14)) := ⟨pw_below_drewN HB13.out n14⟩
      have HCE4 : Aside0 (∀ j (h : j < y.size), (w13.drewN n14).cell? ⟨w12.heap.size, j, none⟩ = some (.int .u8 (y.data[j].toNat : Int))) := ⟨HCE.out⟩
      have HFR4 : Aside0 (∀ j, j < y.size → (w13.drewN n14).frozen? ⟨w12.heap.size, j, none⟩ = false) := ⟨HFR.out⟩
      have hG : w.heap.size ≤ w12.heap.size := HB12.out.size
      generalize w13.drewN n14 = W4 at HB14 HCE4 HFR4 ⊢
      generalize w12.heap.size = G at HCE4 HFR4 hG ⊢
      clear HB13 HCE HFR hq0 hq1 hlt w13
      have hq0 := HCE4.out q hlq
      have hq1 := HFR4.out q hlq
      have HCE5 : Aside0 (∀ n5 j (h : j < y.size), (W4.drewN (1 + n5)).cell? ⟨G, j, none⟩ = some (.int .u8 (y.data[j].toNat : Int))) := ⟨fun _ => HCE4.out⟩
      have hxv := HY.out.xv hlq
      have hke2 : IntKind.u8.wrap (IntKind.i64.wrap (1 + Int.tmod c10 255)) = e := by rw [i64_w]; exact hke
      generalize (y.data[q].toNat : Int) = u at hq0 hxv
      clear hke hkq
      refine wp_region_any (by kernel_rfl) ?_
      change wpAny _ _ _ _ 14 #[false, false, false, false, false, false, false, false, false, false, false, false, false, false] _ (World.drew W4)
      apply by_key1
      · intro key
        refine wpAny_take (i := 0) (v := ?_) rfl (by kernel_rfl) (by kernel_rfl) (by kernel_rfl) (fun _ _ _ h => h) (Or.inl ⟨by rfl, ?hy1⟩) ?_
        case hy1 => intro w'; first | (go_simp; done) | (go_simp; with_reducible rfl)
        refine wpAny_take (i := 1) (v := ?_) rfl (by kernel_rfl) (by kernel_rfl) (by kernel_rfl) (fun _ _ _ h => h) (Or.inl ⟨by rfl, ?hy2⟩) ?_
        case hy2 => intro w'; first | (go_simp; done) | (go_simp; with_reducible rfl)
        refine wpAny_take (i := 2) (v := ?_) rfl (by kernel_rfl) (by kernel_rfl) (by kernel_rfl) (fun _ _ _ h => h) (Or.inl ⟨by rfl, ?hy3⟩) ?_
        case hy3 => intro w'; first | (go_simp; done) | (go_simp; with_reducible rfl)
        refine wpAny_take (i := 3) (v := ?_) rfl (by kernel_rfl) (by kernel_rfl) (by kernel_rfl) (fun _ _ _ h => h) (Or.inl ⟨by rfl, ?hy4⟩) ?_
        case hy4 => intro w'; first | (go_simp; done) | (go_simp; with_reducible rfl)
        refine wpAny_take (i := 4) (v := ?_) rfl (by kernel_rfl) (by kernel_rfl) (by kernel_rfl) (fun _ _ _ h => h) (Or.inl ⟨by rfl, ?hy5⟩) ?_
        case hy5 => intro w'; first | (go_simp; done) | (go_simp; with_reducible rfl)
        refine wpAny_take (i := 6) (v := ?_) rfl (by kernel_rfl) (by kernel_rfl) (by kernel_rfl) (fun _ _ _ h => h) (Or.inl ⟨by rfl, ?hy6⟩) ?_
        case hy6 => intro w'; first | (go_simp; done) | (go_simp; with_reducible rfl)
        refine wpAny_ready (rs := [5, 7]) (by kernel_rfl) (by simp) ?_
        refine AllReady.cons rfl (fun K hK => ?_) ?_
        · go_simp
          refine hK _ _ ?_
          clear hK K
          refine wpAny_ready (rs := [7]) (by kernel_rfl) (by simp) ?_
          refine AllReady.cons rfl (fun K hK => ?_) ?_
          · go_simp
            refine (laws_vAt.calls A0 c0 l0 10 c10 _ (Kd.C_below HR.out HB14.out.drew) HC.out HY.out.a10).mono ?_
            rintro e5 w5 ⟨rfl, hd⟩
            obtain ⟨⟨n5, rfl⟩⟩ := hd
            refine hK _ _ ?_
            clear hK K
            refine wpAny_take (i := 8) (v := ?_) rfl (by kernel_rfl) (by kernel_rfl) (by kernel_rfl) (fun _ _ _ h => h) (Or.inl ⟨by rfl, ?hy7⟩) ?_
            case hy7 => intro w'; first | (go_simp; done) | (go_simp; with_reducible rfl)
            refine wpAny_take (i := 9) (v := ?_) rfl (by kernel_rfl) (by kernel_rfl) (by kernel_rfl) (fun _ _ _ h => h) (Or.inl ⟨by rfl, ?hy8⟩) ?_
            case hy8 => intro w'; first | (go_simp; done) | (go_simp; with_reducible rfl)
            refine wpAny_take (i := 10) (v := ?_) rfl (by kernel_rfl) (by kernel_rfl) (by kernel_rfl) (fun _ _ _ h => h) (Or.inl ⟨by rfl, ?hy9⟩) ?_
            case hy9 => intro w'; first | (go_simp; done) | (go_simp; with_reducible rfl)
            try simp only [Act.put, List.setIfInBounds_toArray, List.set_cons_zero, List.set_cons_succ, World.drewN_drew]
            revert n5
            exact key.out
          exact AllReady.nil
        refine AllReady.cons rfl (fun K hK => ?_) ?_
        · go_simp
          refine (laws_vAt.calls A0 c0 l0 10 c10 _ (Kd.C_below HR.out HB14.out.drew) HC.out HY.out.a10).mono ?_
          rintro e5 w5 ⟨rfl, hd⟩
          obtain ⟨⟨n5, rfl⟩⟩ := hd
          refine hK _ _ ?_
          clear hK K
          refine wpAny_take (i := 8) (v := ?_) rfl (by kernel_rfl) (by kernel_rfl) (by kernel_rfl) (fun _ _ _ h => h) (Or.inl ⟨by rfl, ?hy10⟩) ?_
          case hy10 => intro w'; first | (go_simp; done) | (go_simp; with_reducible rfl)
          refine wpAny_take (i := 9) (v := ?_) rfl (by kernel_rfl) (by kernel_rfl) (by kernel_rfl) (fun _ _ _ h => h) (Or.inl ⟨by rfl, ?hy11⟩) ?_
          case hy11 => intro w'; first | (go_simp; done) | (go_simp; with_reducible rfl)
          refine wpAny_take (i := 10) (v := ?_) rfl (by kernel_rfl) (by kernel_rfl) (by kernel_rfl) (fun _ _ _ h => h) (Or.inl ⟨by rfl, ?hy12⟩) ?_
          case hy12 => intro w'; first | (go_simp; done) | (go_simp; with_reducible rfl)
          refine wpAny_ready (rs := [5]) (by kernel_rfl) (by simp) ?_
          refine AllReady.cons rfl (fun K hK => ?_) ?_
          · go_simp
            refine hK _ _ ?_
            clear hK K
            try simp only [Act.put, List.setIfInBounds_toArray, List.set_cons_zero, List.set_cons_succ, World.drewN_drew]
            revert n5
            exact key.out
          exact AllReady.nil
        exact AllReady.nil
      intro n5
      refine wpAny_take (i := 11) (v := ?_) rfl (by kernel_rfl) (by kernel_rfl) (by kernel_rfl) (fun _ _ _ h => h) (Or.inl ⟨by rfl, ?hy13⟩) ?_
      case hy13 => intro w'; first | (go_simp; done) | (go_simp; with_reducible rfl)
      refine wpAny_take (i := 12) (v := ?_) rfl (by kernel_rfl) (by kernel_rfl) (by kernel_rfl) (fun _ _ _ h => h) (Or.inl ⟨by rfl, ?hy14⟩) ?_
      case hy14 => intro w'; first | (go_simp; done) | (go_simp; with_reducible rfl)
      refine wpAny_ready (rs := [13]) (by kernel_rfl) (by simp) ?_
      refine AllReady.cons rfl (fun K hK => ?_) AllReady.nil
      go_simp
      refine hK _ _ ?_
      clear hK K
      refine wpAny_done (by kernel_rfl) ?_ _
      try simp only [Act.put, List.setIfInBounds_toArray, List.set_cons_zero, List.set_cons_succ, World.drewN_drew]
      have HB15 : Aside0 (Below w.heap.size w ((W4.drewN (1 + n5)).setCell ⟨G, q, none⟩ (.int .u8 v))) := ⟨(pw_below_drewN HB14.out (1 + n5)).setCell hG _⟩
      have hcv := conv_back (W4.drewN (1 + n5)) G q cap y v hlq HY.out.v0 (HCE5.out n5)
      rw [← HY.out.yy] at hcv
      generalize (W4.drewN (1 + n5)).setCell ⟨G, q, none⟩ (.int .u8 v) = W6 at HB15 hcv ⊢
      go_wp2_with (go_at_call 29; with_reducible refine (impl_VerifyChecksum.calls k y2 z false _ HY.out.v2 (HM.out.below HB15.out) (HT.out.below HB15.out)).mono ?_; rintro e w16 ⟨rfl, hb⟩; have HB16 := Aside0.mk (HB15.out.trans (hb.mono HB15.out.size)); clear hb)
      go_ret
      exact ⟨rfl, HB16.out⟩
    | true =>
      obtain ⟨rfl, rfl⟩ := HS.out.b2 rfl
      have HY := Aside0.mk (hse rfl)
      clear hse hy
      go_enter Tryd.func6, Tryd.ntmps6
      go_wp2_with (first
        | (go_at_call 9; refine (laws_vBig.calls A0 c0 l0 false _ HR.out HC.out HV.out).mono ?_; rintro e w1 ⟨rfl, hd⟩; have HB1 := Aside0.mk (d0_below HB.out hd); clear hd)
        | (go_at_call 20; refine (spec_DrawFormatInt.calls A0 c0 l0 back _ (Kd.C_below HR.out HB1.out) HC.out HS.out.dn).mono ?_; rintro e w2 ⟨rfl, hb⟩; have HB2 := Aside0.mk (HB1.out.trans (hb.mono HB1.out.size)); clear hb)
        | (go_at_call 21; refine (impl_FormatInt.calls back s true _ HS.out.i1 (HT.out.below HB2.out)).mono ?_; rintro e w3 ⟨rfl, hb⟩; have HB3 := Aside0.mk (HB2.out.trans (hb.mono HB2.out.size)); clear hb)
        | (go_at_call 22; refine (spec_FormatInt.calls k back s true _ HS.out.s1).mono ?_; rintro e w4 ⟨rfl, hb⟩; have HB4 := Aside0.mk (HB3.out.trans (hb.mono HB3.out.size)); clear hb)
        | (go_at_call 23; refine (spec_DrawParseInt.calls k A0 c0 l0 t _ (Kd.C_below HR.out HB4.out) HC.out HS.out.dt).mono ?_; rintro e w5 ⟨rfl, hb⟩; have HB5 := Aside0.mk (HB4.out.trans (hb.mono HB4.out.size)); clear hb)
        | (go_at_call 24; with_reducible refine (impl_ParseInt.calls t m fine _ HS.out.i2 (HT.out.below HB5.out) (HE.out.below HB5.out)).mono ?_; rintro e w6 ⟨rfl, hb⟩; have HB6 := Aside0.mk (HB5.out.trans (hb.mono HB5.out.size)); clear hb)
        | (go_at_call 25; refine (spec_ParseInt.calls k t m fine _ HS.out.s2).mono ?_; rintro e w7 ⟨rfl, hb⟩; have HB7 := Aside0.mk (HB6.out.trans (hb.mono HB6.out.size)); clear hb)
        | (go_at_call 26; refine (spec_DrawAppendChecksum.calls A0 c0 l0 x _ (Kd.C_below HR.out HB7.out) HC.out HS.out.dx).mono ?_; rintro e w8 ⟨rfl, hb⟩; have HB8 := Aside0.mk (HB7.out.trans (hb.mono HB7.out.size)); clear hb)
        | (go_at_call 27; refine (impl_AppendChecksum.calls k x y true _ HS.out.i3 (HT.out.below HB8.out)).mono ?_; rintro e w9 ⟨rfl, hb⟩; have HB9 := Aside0.mk (HB8.out.trans (hb.mono HB8.out.size)); clear hb)
        | (go_at_call 28; refine (spec_AppendChecksum.calls k x y true _ HS.out.s3).mono ?_; rintro e w10 ⟨rfl, hb⟩; have HB10 := Aside0.mk (HB9.out.trans (hb.mono HB9.out.size)); clear hb)
        | (go_at_call 24; with_reducible refine (impl_ParseInt.calls s back true _ HS.out.b1 (HT.out.below HB10.out) (HE.out.below HB10.out)).mono ?_; rintro e w11 ⟨rfl, hb⟩; have HB11 := Aside0.mk (HB10.out.trans (hb.mono HB10.out.size)); clear hb)
        | (go_at_call 29; with_reducible refine (impl_VerifyChecksum.calls k y x true _ HY.out.v1 (HM.out.below HB11.out) (HT.out.below HB11.out)).mono ?_; rintro e w12 ⟨rfl, hb⟩; have HB12 := Aside0.mk (HB11.out.trans (hb.mono HB11.out.size)); clear hb))
      obtain ⟨cap, w13, hcv, hb13, hlt, hce, hfr⟩ := conv_bytes w12 y
      have HB13 := Aside0.mk (HB12.out.trans (hb13.mono HB12.out.size))
      have HCE := Aside0.mk hce
      have HFR := Aside0.mk hfr
      have hlq := HY.out.lq
      have hkq := HY.out.kq
      have hke := HY.out.ke
      have hy0 : ((y.size : Int) = 0) = False := eq_false (by omega)
      have hy1 : ((y.size : Int) == 0) = false := by rw [beq_eq_false_iff_ne]; omega
      have hq0 := HCE.out q hlq
      have hq1 := HFR.out q hlq
      clear hb13 hce hfr
      go_simp
      clear hcv
      go_wp2_with (go_at_call 30; with_reducible refine (laws_vAt.calls A0 c0 l0 9 c9 _ (Kd.C_below HR.out HB13.out) HC.out HY.out.a9).mono ?_; rintro e w14 ⟨rfl, hd⟩; obtain ⟨⟨n14, rfl⟩⟩ := hd)
      have HB14 : Aside0 (Below w.heap.size w (w13.drewN n14)) := ⟨pw_below_drewN HB13.out n14⟩
      have HCE4 : Aside0 (∀ j (h : j < y.size), (w13.drewN n14).cell? ⟨w12.heap.size, j, none⟩ = some (.int .u8 (y.data[j].toNat : Int))) := ⟨HCE.out⟩
      have HFR4 : Aside0 (∀ j, j < y.size → (w13.drewN n14).frozen? ⟨w12.heap.size, j, none⟩ = false) := ⟨HFR.out⟩
      have hG : w.heap.size ≤ w12.heap.size := HB12.out.size
      generalize w13.drewN n14 = W4 at HB14 HCE4 HFR4 ⊢
      generalize w12.heap.size = G at HCE4 HFR4 hG ⊢
      clear HB13 HCE HFR hq0 hq1 hlt w13
      have hq0 := HCE4.out q hlq
      have hq1 := HFR4.out q hlq
      have HCE5 : Aside0 (∀ n5 j (h : j < y.size), (W4.drewN (1 + n5)).cell? ⟨G, j, none⟩ = some (.int .u8 (y.data[j].toNat : Int))) := ⟨fun _ => HCE4.out⟩
      have hxv := HY.out.xv hlq
      have hke2 : IntKind.u8.wrap (IntKind.i64.wrap (1 + Int.tmod c10 255)) = e := by rw [i64_w]; exact hke
      generalize (y.data[q].toNat : Int) = u at hq0 hxv
      clear hke hkq
      refine wp_region_any (by kernel_rfl) ?_
      change wpAny _ _ _ _ 14 #[false, false, false, false, false, false, false, false, false, false, false, false, false, false] _ (World.drew W4)
      apply by_key1
      · intro key
        refine wpAny_take (i := 0) (v := ?_) rfl (by kernel_rfl) (by kernel_rfl) (by kernel_rfl) (fun _ _ _ h => h) (Or.inl ⟨by rfl, ?hy1⟩) ?_
        case hy1 => intro w'; first | (go_simp; done) | (go_simp; with_reducible rfl)
        refine wpAny_take (i := 1) (v := ?_) rfl (by kernel_rfl) (by kernel_rfl) (by kernel_rfl) (fun _ _ _ h => h) (Or.inl ⟨by rfl, ?hy2⟩) ?_
        case hy2 => intro w'; first | (go_simp; done) | (go_simp; with_reducible rfl)
        refine wpAny_take (i := 2) (v := ?_) rfl (by kernel_rfl) (by kernel_rfl) (by kernel_rfl) (fun _ _ _ h => h) (Or.inl ⟨by rfl, ?hy3⟩) ?_
        case hy3 => intro w'; first | (go_simp; done) | (go_simp; with_reducible rfl)
        refine wpAny_take (i := 3) (v := ?_) rfl (by kernel_rfl) (by kernel_rfl) (by kernel_rfl) (fun _ _ _ h => h) (Or.inl ⟨by rfl, ?hy4⟩) ?_
        case hy4 => intro w'; first | (go_simp; done) | (go_simp; with_reducible rfl)
        refine wpAny_take (i := 4) (v := ?_) rfl (by kernel_rfl) (by kernel_rfl) (by kernel_rfl) (fun _ _ _ h => h) (Or.inl ⟨by rfl, ?hy5⟩) ?_
        case hy5 => intro w'; first | (go_simp; done) | (go_simp; with_reducible rfl)
        refine wpAny_take (i := 6) (v := ?_) rfl (by kernel_rfl) (by kernel_rfl) (by kernel_rfl) (fun _ _ _ h => h) (Or.inl ⟨by rfl, ?hy6⟩) ?_
        case hy6 => intro w'; first | (go_simp; done) | (go_simp; with_reducible rfl)
        refine wpAny_ready (rs := [5, 7]) (by kernel_rfl) (by simp) ?_
        refine AllReady.cons rfl (fun K hK => ?_) ?_
        · go_simp
          refine hK _ _ ?_
          clear hK K
          refine wpAny_ready (rs := [7]) (by kernel_rfl) (by simp) ?_
          refine AllReady.cons rfl (fun K hK => ?_) ?_
          · go_simp
            refine (laws_vAt.calls A0 c0 l0 10 c10 _ (Kd.C_below HR.out HB14.out.drew) HC.out HY.out.a10).mono ?_
            rintro e5 w5 ⟨rfl, hd⟩
            obtain ⟨⟨n5, rfl⟩⟩ := hd
            refine hK _ _ ?_
            clear hK K
            refine wpAny_take (i := 8) (v := ?_) rfl (by kernel_rfl) (by kernel_rfl) (by kernel_rfl) (fun _ _ _ h => h) (Or.inl ⟨by rfl, ?hy7⟩) ?_
            case hy7 => intro w'; first | (go_simp; done) | (go_simp; with_reducible rfl)
            refine wpAny_take (i := 9) (v := ?_) rfl (by kernel_rfl) (by kernel_rfl) (by kernel_rfl) (fun _ _ _ h => h) (Or.inl ⟨by rfl, ?hy8⟩) ?_
            case hy8 => intro w'; first | (go_simp; done) | (go_simp; with_reducible rfl)
            refine wpAny_take (i := 10) (v := ?_) rfl (by kernel_rfl) (by kernel_rfl) (by kernel_rfl) (fun _ _ _ h => h) (Or.inl ⟨by rfl, ?hy9⟩) ?_
            case hy9 => intro w'; first | (go_simp; done) | (go_simp; with_reducible rfl)
            try simp only [Act.put, List.setIfInBounds_toArray, List.set_cons_zero, List.set_cons_succ, World.drewN_drew]
            revert n5
            exact key.out
          exact AllReady.nil
        refine AllReady.cons rfl (fun K hK => ?_) ?_
        · go_simp
          refine (laws_vAt.calls A0 c0 l0 10 c10 _ (Kd.C_below HR.out HB14.out.drew) HC.out HY.out.a10).mono ?_
          rintro e5 w5 ⟨rfl, hd⟩
          obtain ⟨⟨n5, rfl⟩⟩ := hd
          refine hK _ _ ?_
          clear hK K
          refine wpAny_take (i := 8) (v := ?_) rfl (by kernel_rfl) (by kernel_rfl) (by kernel_rfl) (fun _ _ _ h => h) (Or.inl ⟨by rfl, ?hy10⟩) ?_
          case hy10 => intro w'; first | (go_simp; done) | (go_simp; with_reducible rfl)
          refine wpAny_take (i := 9) (v := ?_) rfl (by kernel_rfl) (by kernel_rfl) (by kernel_rfl) (fun _ _ _ h => h) (Or.inl ⟨by rfl, ?hy11⟩) ?_
          case hy11 => intro w'; first | (go_simp; done) | (go_simp; with_reducible rfl)
          refine wpAny_take (i := 10) (v := ?_) rfl (by kernel_rfl) (by kernel_rfl) (by kernel_rfl) (fun _ _ _ h => h) (Or.inl ⟨by rfl, ?hy12⟩) ?_
          case hy12 => intro w'; first | (go_simp; done) | (go_simp; with_reducible rfl)
          refine wpAny_ready (rs := [5]) (by kernel_rfl) (by simp) ?_
          refine AllReady.cons rfl (fun K hK => ?_) ?_
          · go_simp
            refine hK _ _ ?_
            clear hK K
            try simp only [Act.put, List.setIfInBounds_toArray, List.set_cons_zero, List.set_cons_succ, World.drewN_drew]
            revert n5
            exact key.out
          exact AllReady.nil
        exact AllReady.nil
      intro n5
      refine wpAny_take (i := 11) (v := ?_) rfl (by kernel_rfl) (by kernel_rfl) (by kernel_rfl) (fun _ _ _ h => h) (Or.inl ⟨by rfl, ?hy13⟩) ?_
      case hy13 => intro w'; first | (go_simp; done) | (go_simp; with_reducible rfl)
      refine wpAny_take (i := 12) (v := ?_) rfl (by kernel_rfl) (by kernel_rfl) (by kernel_rfl) (fun _ _ _ h => h) (Or.inl ⟨by rfl, ?hy14⟩) ?_
      case hy14 => intro w'; first | (go_simp; done) | (go_simp; with_reducible rfl)
      refine wpAny_ready (rs := [13]) (by kernel_rfl) (by simp) ?_
      refine AllReady.cons rfl (fun K hK => ?_) AllReady.nil
      go_simp
      refine hK _ _ ?_
      clear hK K
      refine wpAny_done (by kernel_rfl) ?_ _
      try simp only [Act.put, List.setIfInBounds_toArray, List.set_cons_zero, List.set_cons_succ, World.drewN_drew]
      have HB15 : Aside0 (Below w.heap.size w ((W4.drewN (1 + n5)).setCell ⟨G, q, none⟩ (.int .u8 v))) := ⟨(pw_below_drewN HB14.out (1 + n5)).setCell hG _⟩
      have hcv := conv_back (W4.drewN (1 + n5)) G q cap y v hlq HY.out.v0 (HCE5.out n5)
      rw [← HY.out.yy] at hcv
      generalize (W4.drewN (1 + n5)).setCell ⟨G, q, none⟩ (.int .u8 v) = W6 at HB15 hcv ⊢
      go_wp2_with (go_at_call 29; with_reducible refine (impl_VerifyChecksum.calls k y2 z false _ HY.out.v2 (HM.out.below HB15.out) (HT.out.below HB15.out)).mono ?_; rintro e w16 ⟨rfl, hb⟩; have HB16 := Aside0.mk (HB15.out.trans (hb.mono HB15.out.size)); clear hb)
      go_ret
      exact ⟨rfl, HB16.out⟩
def laws_FnStrings.P (k : Nat) (l0 : List Int) : Prop := (l0.length : Int) > 65536 ∨ ∃ n s ok t m fine x y sealed back there c9 c10 q e v y2 z, Strs k l0 n s ok t m fine x y sealed back there ∧ (sealed = false → y = ⟨#[]⟩) ∧ (sealed = true → Seal k l0 x y c9 c10 q e v y2 z)
open Classical in
noncomputable def laws_FnStrings.f (k : Nat) (l0 : List Int) : Option (Bool) := if laws_FnStrings.P k l0 then some true else none
set_option maxHeartbeats 2000000 in
theorem laws_FnStrings.calls (k : Nat) (A0 : Option Addr) (c0 : Nat) (l0 : List Int) (r : Bool) (w : World) (hr0 : Kd.C (Kd.int .u8) w A0 l0.length l0) (hc0 : l0.length ≤ c0) (h : laws_FnStrings.f k l0 = some true) (hG_MaxIs : MaxIs w) (hG_Tab : Tab w) (hG_Errs : Errs w) :
    Calls Tryd.prog 6 #[.slice A0 l0.length c0] w fun e w' => e = .returned (.bool true) ∧ Below w.heap.size w w' := by
  by_cases hbig : (l0.length : Int) > 65536
  · have HR := Aside0.mk hr0
    have HC := Aside0.mk hc0
    have HV : Aside0 (laws_vBig.f l0 = some true) := ⟨by unfold laws_vBig.f; rw [decide_eq_true hbig]⟩
    have HB := Aside0.mk (Below.refl w.heap.size w)
    clear hr0 hc0 h hG_Tab hG_MaxIs hG_Errs hbig
    go_enter Tryd.func6, Tryd.ntmps6
    go_wp2_with (go_at_call 9; refine (laws_vBig.calls A0 c0 l0 true _ HR.out HC.out HV.out).mono ?_; rintro e w1 ⟨rfl, hd⟩; have HB1 := Aside0.mk (d0_below HB.out hd); clear hd)
    go_ret
    exact ⟨rfl, HB1.out⟩
  · unfold laws_FnStrings.f at h
    by_cases hp : laws_FnStrings.P k l0
    · rcases hp with hb | ⟨n, s, ok, t, m, fine, x, y, sealed, back, there, c9, c10, q, e, v, y2, z, h1, h2, h3⟩
      · exact absurd hb hbig
      · exact strs_walk k A0 c0 l0 w hr0 hc0 hbig h1 h2 h3 hG_Tab hG_MaxIs hG_Errs
    · rw [if_neg hp] at h
      cases h
end Go.Proofs.YtklddfkhbhkhdaaDoor.Q
namespace Go.Proofs.YtklddfkhbhkhdaaDoor.Q
open Go.RowKit Go.Proofs.YtklddfkhbhkhdaaDoorW.PrintWords Go.Proofs.YtklddfkhbhkhdaaDoorW.PrintLast
def Ev {α : Type} (F : Nat → Option α) (r : α) : Prop := ∃ K, ∀ k, K ≤ k → F k = some r
theorem Ev.pure {α : Type} (r : α) : Ev (fun _ => some r) r := ⟨0, fun _ _ => rfl⟩
theorem Ev.const {α : Type} {x : Option α} {r : α} (h : x = some r) : Ev (fun _ => x) r := ⟨0, fun _ _ => h⟩
theorem Ev.succ {α : Type} {F : Nat → Option α} {r : α} (h : Ev (fun k => F (k + 1)) r) : Ev F r := by
  obtain ⟨K, h⟩ := h
  refine ⟨K + 1, fun k hk => ?_⟩
  obtain ⟨j, rfl⟩ : ∃ j, k = j + 1 := ⟨k - 1, by omega⟩
  exact h j (by omega)
theorem Ev.bind {α β : Type} {F : Nat → Option α} {G : Nat → α → Option β} {t : α} {r : β} (h : Ev F t) (h2 : Ev (fun k => G k t) r) : Ev (fun k => (F k).bind (G k)) r := by
  obtain ⟨K, h⟩ := h
  obtain ⟨K2, h2⟩ := h2
  refine ⟨max K K2, fun k hk => ?_⟩
  simp only [h k (by omega), Option.bind_some]
  exact h2 k (by omega)
theorem Ev.bindc {α β : Type} {x : Option α} {G : Nat → α → Option β} {t : α} {r : β} (h : x = some t) (h2 : Ev (fun k => G k t) r) : Ev (fun k => x.bind (G k)) r := Ev.bind (Ev.const h) h2
theorem Ev.pos {α : Type} {c : Prop} [Decidable c] {F G : Nat → Option α} {r : α} (hc : c) (h : Ev F r) : Ev (fun k => if c then F k else G k) r := by simpa only [if_pos hc] using h
theorem Ev.neg {α : Type} {c : Prop} [Decidable c] {F G : Nat → Option α} {r : α} (hc : ¬ c) (h : Ev G r) : Ev (fun k => if c then F k else G k) r := by simpa only [if_neg hc] using h
theorem Ev.unique {α : Type} {F : Nat → Option α} {r s : α} (h : Ev F r) (h2 : Ev F s) : r = s := by
  obtain ⟨K, h⟩ := h
  obtain ⟨K2, h2⟩ := h2
  have := (h (max K K2) (by omega)).symm.trans (h2 (max K K2) (by omega))
  injection this
theorem wnext (i : Nat) (h : i ≤ 4611686018427387904) : wrap64 ((i : Int) + 1) = ((i + 1 : Nat) : Int) := by unfold wrap64; omega
end Go.Proofs.YtklddfkhbhkhdaaDoor.Q
namespace Go.Proofs.YtklddfkhbhkhdaaDoor.Q
open Go.RowKit Go.Proofs.YtklddfkhbhkhdaaDoorW.PrintWords Go.Proofs.YtklddfkhbhkhdaaDoorW.PrintLast
set_option linter.unusedVariables false
theorem bits255 (x : Int) : 0 ≤ Go.bits .and .u64 x 255 ∧ Go.bits .and .u64 x 255 ≤ 255 := by
  have h : ((BitVec.ofInt IntKind.u64.bits x) &&& (BitVec.ofInt IntKind.u64.bits 255)).toNat ≤ 255 := by
    rw [BitVec.toNat_and]
    exact Nat.le_trans Nat.and_le_right (by decide)
  have e : Go.bits .and .u64 x 255 = IntKind.u64.wrap (((BitVec.ofInt IntKind.u64.bits x) &&& (BitVec.ofInt IntKind.u64.bits 255)).toNat : Int) := rfl
  rw [e]
  generalize ((BitVec.ofInt IntKind.u64.bits x) &&& (BitVec.ofInt IntKind.u64.bits 255)).toNat = n at h
  have e2 : IntKind.u64.wrap (n : Int) = (n : Int) := by
    have : IntKind.u64.wrap (n : Int) = (n : Int) % 18446744073709551616 := rfl
    rw [this]
    omega
  rw [e2]
  omega
def Bytes (l : List Int) : Prop := ∀ x ∈ l, 0 ≤ x ∧ x ≤ 255
theorem next_ok {l0 : List Int} (hb : Bytes l0) {s : Int} (h0 : 0 ≤ s) (h1 : s ≤ 1000000) (z : Int) : ∃ r z', spec_l1Cur_next.f l0 s z = some (r, s + 1, z') ∧ 0 ≤ r ∧ r ≤ 255 := by
  have ew : wrap64 (s + 1) = s + 1 := by unfold wrap64; omega
  unfold spec_l1Cur_next.f
  rw [ew]
  by_cases hl : s < (l0.length : Int)
  · have hrd : 0 ≤ rd l0 s ∧ rd l0 s ≤ 255 := by
      obtain ⟨n, rfl⟩ : ∃ n : Nat, s = (n : Int) := ⟨s.toNat, by omega⟩
      have hn : n < l0.length := by omega
      have e : rd l0 (n : Int) = l0[n] := by simp [rd, hn]
      rw [e]
      exact hb _ (List.getElem_mem hn)
    have e2 : wrap64 (rd l0 s) = rd l0 s := by unfold wrap64; omega
    rw [if_pos hl, if_pos h0, if_pos (show s + 1 ≤ (l0.length : Int) by omega), e2]
    exact ⟨_, _, rfl, hrd.1, hrd.2⟩
  · rw [if_neg hl, if_neg (show ¬ s + 1 ≤ (l0.length : Int) by omega)]
    have hh := bits255 (IntKind.u64.wrap ((IntKind.u64.wrap ((IntKind.u64.wrap (z * 6364136223846793005)) + 0)) + 462197) / 1099511627776)
    have e2 : ∀ q : Int, 0 ≤ q → q ≤ 255 → wrap64 q = q := fun q a b => by unfold wrap64; omega
    rw [e2 _ hh.1 hh.2]
    exact ⟨_, _, rfl, hh.1, hh.2⟩
theorem pick_ok {l0 : List Int} (hb : Bytes l0) {s : Int} (h0 : 0 ≤ s) (h1 : s ≤ 999000) (z n : Int) (hn : 1 ≤ n) (hn2 : n ≤ 2000) : ∃ r s' z', spec_l1Cur_pick.f l0 s z n = some (r, s', z') ∧ 0 ≤ r ∧ r < n ∧ 0 ≤ s' ∧ s' ≤ s + 2 := by
  unfold spec_l1Cur_pick.f
  by_cases h : n ≤ 1
  · rw [if_pos h]; exact ⟨0, s, z, rfl, by omega, by omega, h0, by omega⟩
  · rw [if_neg h]
    obtain ⟨r, z1, e1, r0, r1⟩ := next_ok hb h0 (by omega) z
    rw [e1, Option.bind_some]
    simp only
    by_cases h2 : n > 200
    · obtain ⟨q, z2, e2, q0, q1⟩ := next_ok hb (s := s + 1) (by omega) (by omega) z1
      rw [if_pos h2, e2, Option.bind_some, if_neg (by omega)]
      have ew : wrap64 (wrap64 (r * 256) + q) = r * 256 + q := by unfold wrap64; omega
      simp only [ew]
      refine ⟨_, _, _, rfl, ?_, ?_, by omega, by omega⟩
      · rw [Int.tmod_eq_emod_of_nonneg (by omega)]; exact Int.emod_nonneg _ (by omega)
      · rw [Int.tmod_eq_emod_of_nonneg (by omega)]; exact Int.emod_lt_of_pos _ (by omega)
    · rw [if_neg h2, if_neg (by omega)]
      refine ⟨_, _, _, rfl, ?_, ?_, by omega, by omega⟩
      · rw [Int.tmod_eq_emod_of_nonneg (by omega)]; exact Int.emod_nonneg _ (by omega)
      · rw [Int.tmod_eq_emod_of_nonneg (by omega)]; exact Int.emod_lt_of_pos _ (by omega)
theorem of_ok {l0 : List Int} (hb : Bytes l0) {s : Int} (h0 : 0 ≤ s) (h1 : s ≤ 999000) (z : Int) (l : List ByteArray) (hl : 1 ≤ l.length) (hl2 : l.length ≤ 2000) : ∃ r s' z', spec_l1Cur_of.f l0 s z l = some (r, s', z') ∧ r ∈ l ∧ 0 ≤ s' ∧ s' ≤ s + 2 := by
  obtain ⟨r, s', z', e, r0, r1, s0, s1⟩ := pick_ok hb h0 h1 z (l.length : Int) (by omega) (by omega)
  unfold spec_l1Cur_of.f
  rw [e, Option.bind_some]
  simp only
  rw [if_pos r0, if_pos r1]
  refine ⟨_, _, _, rfl, ?_, s0, s1⟩
  obtain ⟨n, rfl⟩ : ∃ n : Nat, r = (n : Int) := ⟨r.toNat, by omega⟩
  have hn : n < l.length := by omega
  have er : rdOf ByteArray.empty l (n : Int) = l[n] := by simp [rdOf, hn]
  rw [er]
  exact List.getElem_mem hn
def anys : List ByteArray := [(⟨#[]⟩ : ByteArray), (⟨#[97]⟩ : ByteArray), (⟨#[97, 44, 98]⟩ : ByteArray), (⟨#[115, 111, 109, 101, 32, 119, 111, 114, 100, 115]⟩ : ByteArray), (⟨#[120, 35, 121]⟩ : ByteArray), (⟨#[45, 49, 50]⟩ : ByteArray), (⟨#[0, 255]⟩ : ByteArray), (⟨#[44, 44]⟩ : ByteArray), (⟨#[48]⟩ : ByteArray)]
theorem any1_ok {l0 : List Int} (hb : Bytes l0) {s : Int} (h0 : 0 ≤ s) (h1 : s ≤ 999000) (z : Int) : ∃ r s' z', spec_l1Cur_any1.f l0 s z = some (r, s', z') ∧ r.size ≤ 10 ∧ 0 ≤ s' ∧ s' ≤ s + 2 := by
  obtain ⟨r, s', z', e, hm, s0, s1⟩ := of_ok hb h0 h1 z anys (by decide) (by decide)
  unfold spec_l1Cur_any1.f
  refine ⟨r, s', z', ?_, ?_, s0, s1⟩
  · show ((spec_l1Cur_of.f l0 s z anys).bind _) = _
    rw [e]
    rfl
  have : ∀ x ∈ anys, x.size ≤ 10 := by decide
  exact this r hm
theorem one_ok {l0 : List Int} (hb : Bytes l0) {s : Int} (h0 : 0 ≤ s) (h1 : s ≤ 999000) (z n : Int) (hn : 1 ≤ n) (hn2 : n ≤ 2000) : ∃ r s' z', spec_l1Cur_one.f l0 s z n = some (r, s', z') ∧ 0 ≤ s' ∧ s' ≤ s + 2 := by
  obtain ⟨r, s', z', e, r0, r1, s0, s1⟩ := pick_ok hb h0 h1 z n hn hn2
  unfold spec_l1Cur_one.f
  rw [e, Option.bind_some]
  exact ⟨_, _, _, rfl, s0, s1⟩
theorem zeros_size (n : Nat) : (zeros n).size = n := by simp [zeros, ByteArray.size]
end Go.Proofs.YtklddfkhbhkhdaaDoor.Q
namespace Go.Proofs.YtklddfkhbhkhdaaDoor.Q
open Go.RowKit Go.Proofs.YtklddfkhbhkhdaaDoorW.PrintWords Go.Proofs.YtklddfkhbhkhdaaDoorW.PrintLast
theorem pw_append (a b : List UInt8) : pw a ++ pw b = pw (a ++ b) := by
  apply ByteArray.ext
  simp [pw, ByteArray.data_append]
theorem pw_size (a : List UInt8) : (pw a).size = a.length := by simp [pw, ByteArray.size]
theorem lw_pw (a : List UInt8) : lw (pw a) = a := by simp [pw, lw]
theorem pw_lw (a : ByteArray) : pw (lw a) = a := by apply ByteArray.ext; simp [pw, lw]
theorem lw_append (a b : ByteArray) : lw (a ++ b) = lw a ++ lw b := by simp [lw, ByteArray.data_append]
theorem lw_length (b : ByteArray) : (lw b).length = b.size := by unfold lw; rw [Array.length_toList]; rfl
theorem lw_inj {a b : ByteArray} (h : lw a = lw b) : a = b := by rw [← pw_lw a, ← pw_lw b, h]
theorem bt_lw (a : ByteArray) (i : Nat) (h : i < (lw a).length) : bt a (i : Int) = (((lw a)[i]'h).toNat : Int) := by
  have h2 : i < a.size := by rw [← lw_length]; exact h
  have : ((i : Int)).toNat < a.size := by simpa using h2
  rw [← bt_at a (i : Int) this]
  rfl
theorem tl_eq (a b : ByteArray) : a.toList = b.toList ↔ a = b := by
  rw [Lib.toList_data, Lib.toList_data]
  exact ⟨fun h => lw_inj h, fun h => by rw [h]⟩
end Go.Proofs.YtklddfkhbhkhdaaDoor.Q
namespace Go.Proofs.YtklddfkhbhkhdaaDoor.Q
open Go.RowKit Go.Proofs.YtklddfkhbhkhdaaDoorW.PrintWords Go.Proofs.YtklddfkhbhkhdaaDoorW.PrintLast
theorem itoaB_pw (n : Int) : itoaB n = pw (Lib.itoa n) := rfl
theorem ten_at (u : Nat) (h : u < 10) : (⟨#[48, 49, 50, 51, 52, 53, 54, 55, 56, 57]⟩ : ByteArray).extract u (u + 1) = pw (Lib.decDigits u) := by
  rw [Lib.decDigits_one h]
  have : ∀ p : Fin 10, (⟨#[48, 49, 50, 51, 52, 53, 54, 55, 56, 57]⟩ : ByteArray).extract p.val (p.val + 1) = pw [UInt8.ofNat (48 + p.val)] := by decide +kernel
  exact this ⟨u, h⟩
theorem dec_step {u : Nat} (h : ¬ u < 10) : Lib.decDigits u = Lib.decDigits (u / 10) ++ Lib.decDigits (u % 10) := by
  rw [Lib.decDigits_one (Nat.mod_lt u (by decide))]
  conv => lhs; rw [Lib.decDigits, dif_neg h]
theorem dec_len (u : Nat) (h : u < 18446744073709551616) : (Lib.decDigits u).length ≤ 20 := by rw [Lib.decDigits_length]; exact Lib.nDigits_le20 u h
theorem num_pos (u : Nat) : u < 4611686018427387904 → Ev (fun k => spec_l1Num.f k (u : Int)) (pw (Lib.decDigits u)) := by
  induction u using Nat.strongRecOn with
  | ind u ih =>
    intro hu
    refine Ev.succ ?_
    simp only [spec_l1Num.f]
    refine Ev.neg (by omega) ?_
    by_cases h : u < 10
    · refine Ev.pos (by omega) ?_
      rw [wnext u (by omega), Int.toNat_natCast, Int.toNat_natCast, ten_at u h]
      exact (Ev.pos (by omega) (Ev.pos (by omega) (Ev.pos (by omega) (Ev.pure _))))
    · have e1 : wrap64 (Int.tdiv (u : Int) 10) = ((u / 10 : Nat) : Int) := by rw [Int.tdiv_eq_ediv_of_nonneg (by omega)]; unfold wrap64; omega
      have e2 : Int.tmod (u : Int) 10 = ((u % 10 : Nat) : Int) := by rw [Int.tmod_eq_emod_of_nonneg (by omega)]; omega
      have hm : u % 10 < 10 := Nat.mod_lt u (by decide)
      have l1 := dec_len (u / 10) (by omega)
      have l2 := dec_len (u % 10) (by omega)
      refine Ev.neg (by omega) ?_
      rw [e1, e2, wnext (u % 10) (by omega), Int.toNat_natCast, Int.toNat_natCast, ten_at (u % 10) hm]
      refine (Ev.bind (ih (u / 10) (by omega) (by omega)) (Ev.pos (by omega) (Ev.pos (by omega) (Ev.pos (by omega) (Ev.pos (by rw [pw_size, pw_size]; omega) ?_)))))
      rw [pw_append, ← dec_step h]
      exact Ev.pure _
theorem num_neg (u : Nat) : 1 ≤ u → u < 4611686018427387904 → Ev (fun k => spec_l1Num.f k (-(u : Int))) (pw (45 :: Lib.decDigits u)) := by
  induction u using Nat.strongRecOn with
  | ind u ih =>
    intro h1 hu
    refine Ev.succ ?_
    simp only [spec_l1Num.f]
    refine Ev.pos (by omega) ?_
    have l0 := dec_len u (by omega)
    by_cases h : u < 10
    · have e : wrap64 (-(-(u : Int))) = (u : Int) := by unfold wrap64; omega
      rw [e]
      refine Ev.pos (by omega) (Ev.bind (num_pos u (by omega)) (Ev.pos (by rw [pw_size]; omega) ?_))
      exact Ev.const (congrArg some (pw_append [45] _))
    · have e1 : wrap64 (Int.tdiv (-(u : Int)) 10) = -((u / 10 : Nat) : Int) := by rw [Int.neg_tdiv, Int.tdiv_eq_ediv_of_nonneg (by omega)]; unfold wrap64; omega
      have e2 : wrap64 (-(Int.tmod (-(u : Int)) 10)) = ((u % 10 : Nat) : Int) := by rw [Int.neg_tmod, Int.tmod_eq_emod_of_nonneg (by omega)]; unfold wrap64; omega
      have l1 := dec_len (u / 10) (by omega)
      have l2 := dec_len (u % 10) (by omega)
      rw [e1, e2]
      refine Ev.neg (by omega) (Ev.bind (ih (u / 10) (by omega) (by omega) (by omega)) (Ev.bind (num_pos (u % 10) (by omega)) (Ev.pos (by rw [pw_size, pw_size, List.length_cons]; omega) ?_)))
      rw [pw_append, List.cons_append, ← dec_step h]
      exact Ev.pure _
theorem num_ev (n : Int) (h0 : -4611686018427387904 < n) (h1 : n < 4611686018427387904) : Ev (fun k => spec_l1Num.f k n) (itoaB n) := by
  rw [itoaB_pw]
  by_cases h : n < 0
  · obtain ⟨u, rfl⟩ : ∃ u : Nat, n = -(u : Int) := ⟨n.natAbs, by omega⟩
    rw [Lib.itoa_neg u (by omega)]
    exact num_neg u (by omega) (by omega)
  · obtain ⟨u, rfl⟩ : ∃ u : Nat, n = (u : Int) := ⟨n.toNat, by omega⟩
    rw [Lib.itoa_nonneg]
    exact num_pos u (by omega)
theorem itoaB_size (n : Int) (h0 : -9223372036854775808 ≤ n) (h1 : n ≤ 9223372036854775807) : (itoaB n).size ≤ 21 := by
  rw [itoaB_pw, pw_size]
  exact Lib.itoa_length_le n h0 h1
end Go.Proofs.YtklddfkhbhkhdaaDoor.Q
namespace Go.Proofs.YtklddfkhbhkhdaaDoor.Q
open Go.RowKit Go.Proofs.YtklddfkhbhkhdaaDoorW.PrintWords Go.Proofs.YtklddfkhbhkhdaaDoorW.PrintLast
theorem decFrom_append : ∀ (l r : List UInt8) (acc m : Nat), Lib.decFrom acc l = some m → Lib.decFrom acc (l ++ r) = Lib.decFrom m r
  | [], _, _, _, h => by simp only [Lib.decFrom, Option.some.injEq] at h; rw [h]; rfl
  | b :: l, r, acc, m, h => by
    simp only [Lib.decFrom, List.cons_append] at h ⊢
    cases hd : Lib.digitVal b with
    | none => rw [hd] at h; cases h
    | some d => rw [hd] at h; exact decFrom_append l r _ m h
theorem digit_val {u : Nat} (h : u < 10) : Lib.digitVal (UInt8.ofNat (48 + u)) = some u := by
  have e : (UInt8.ofNat (48 + u)).toNat = 48 + u := by rw [UInt8.toNat_ofNat']; omega
  unfold Lib.digitVal
  rw [e, if_pos (by omega)]
  exact congrArg some (by omega)
theorem decFrom_dec (u : Nat) : Lib.decFrom 0 (Lib.decDigits u) = some u := by
  induction u using Nat.strongRecOn with
  | ind u ih =>
    by_cases h : u < 10
    · rw [Lib.decDigits_one h]
      simp only [Lib.decFrom, digit_val h]
      exact congrArg some (by omega)
    · rw [dec_step h, decFrom_append _ _ _ _ (ih (u / 10) (by omega)), Lib.decDigits_one (Nat.mod_lt u (by decide))]
      simp only [Lib.decFrom, digit_val (Nat.mod_lt u (show 0 < 10 by decide))]
      exact congrArg some (by omega)
theorem dec_head (u : Nat) : ∃ b r, Lib.decDigits u = b :: r ∧ 48 ≤ b.toNat ∧ b.toNat ≤ 57 := by
  cases h : Lib.decDigits u with
  | nil =>
    have := Lib.decDigits_length u
    have h2 := Lib.nDigits_pos u
    rw [h] at this
    simp at this
    omega
  | cons b r =>
    refine ⟨b, r, rfl, ?_⟩
    have e := decFrom_dec u
    rw [h] at e
    simp only [Lib.decFrom, Lib.digitVal] at e
    by_cases q : 48 ≤ b.toNat ∧ b.toNat ≤ 57
    · exact q
    · rw [if_neg q] at e; cases e
theorem dec_pow : ∀ (m v : Nat), m + 1 < Lib.nDigits v → 10 ^ (m + 1) ≤ v
  | 0, v, hv => by
    refine Nat.le_of_not_lt fun hq => ?_
    rw [Lib.nDigits_small (by omega)] at hv
    omega
  | m + 1, v, hv => by
    by_cases hq : v < 10
    · rw [Lib.nDigits_small hq] at hv; omega
    · rw [Lib.nDigits_big hq] at hv
      have := dec_pow m (v / 10) (by omega)
      rw [Nat.pow_succ]
      omega
theorem dec_len6 {u : Nat} (h : u < 1000000) : (Lib.decDigits u).length ≤ 6 := by
  rw [Lib.decDigits_length]
  refine Nat.le_of_not_lt fun hn => ?_
  have := dec_pow 5 u hn
  have e : (10 : Nat) ^ (5 + 1) = 1000000 := by decide
  omega
theorem atoi_minus (l : List UInt8) : Lib.atoi (45 :: l) = (Lib.decNat l).map fun (m : Nat) => -(m : Int) := by simp [Lib.atoi]
theorem atoi_plain (b : UInt8) (r : List UInt8) (h : b ≠ 45) (h2 : b ≠ 43) : Lib.atoi (b :: r) = (Lib.decNat (b :: r)).map fun (m : Nat) => (m : Int) := by simp [Lib.atoi, h, h2]
def readEnd (s t : ByteArray) (m : Nat) : Int × Bool :=
  if itoaB (if t.size < s.size then -(m : Int) else (m : Int)) = s then (if t.size < s.size then -(m : Int) else (m : Int), true) else (0, false)
def readOf (s t : ByteArray) : Option Nat → Int × Bool
  | some m => readEnd s t m
  | none => (0, false)
def readW (s t : ByteArray) : Int × Bool := readOf s t (Lib.decFrom 0 (lw t))
theorem dig_wrap (m c : Nat) (hm : m < 1000000) (h1 : 48 ≤ c) (h2 : c ≤ 57) : wrap64 (wrap64 (10 * (m : Int)) + ((c : Int) - 48) % 256) = ((m * 10 + (c - 48) : Nat) : Int) := by
  have e1 : wrap64 (10 * (m : Int)) = 10 * (m : Int) := by unfold wrap64; omega
  have e2 : ((c : Int) - 48) % 256 = (c : Int) - 48 := by omega
  rw [e1, e2]
  have e3 : 10 * (m : Int) + ((c : Int) - 48) = ((m * 10 + (c - 48) : Nat) : Int) := by omega
  rw [e3]
  unfold wrap64
  omega
theorem read_l0 (s t : ByteArray) (ht : t.size ≤ 6) : ∀ (n i m : Nat), i + n = t.size → m < 10 ^ i → Ev (fun k => spec_l1Read.l0 k s t (m : Int) (i : Int)) (readOf s t (Lib.decFrom m ((lw t).drop i))) := by
  intro n
  induction n with
  | zero =>
    intro i m hi hm
    have hm6 : m < 1000000 := Nat.lt_of_lt_of_le hm (Nat.pow_le_pow_right (by decide) (show i ≤ 6 by omega))
    refine Ev.succ ?_
    simp only [spec_l1Read.l0]
    rw [List.drop_of_length_le (by rw [lw_length]; omega)]
    refine Ev.neg (by omega) ?_
    show Ev _ (readEnd s t m)
    unfold readEnd
    by_cases hts : t.size < s.size
    · have e : wrap64 (-(m : Int)) = -(m : Int) := by unfold wrap64; omega
      rw [if_pos hts, e]
      refine Ev.pos (by omega) (Ev.bind (num_ev _ (by omega) (by omega)) ?_)
      by_cases q : itoaB (-(m : Int)) = s
      · rw [if_pos q]; exact Ev.pos ((tl_eq _ _).2 q) (Ev.pure _)
      · rw [if_neg q]; exact Ev.neg (fun h => q ((tl_eq _ _).1 h)) (Ev.pure _)
    · rw [if_neg hts]
      refine Ev.neg (by omega) (Ev.bind (num_ev _ (by omega) (by omega)) ?_)
      by_cases q : itoaB (m : Int) = s
      · rw [if_pos q]; exact Ev.pos ((tl_eq _ _).2 q) (Ev.pure _)
      · rw [if_neg q]; exact Ev.neg (fun h => q ((tl_eq _ _).1 h)) (Ev.pure _)
  | succ n ih =>
    intro i m hi hm
    have hm6 : m < 1000000 := Nat.lt_of_lt_of_le hm (Nat.pow_le_pow_right (by decide) (show i ≤ 6 by omega))
    have hl : i < (lw t).length := by rw [lw_length]; omega
    have hb := ((lw t)[i]).toNat_lt
    refine Ev.succ ?_
    simp only [spec_l1Read.l0, bt_lw t i hl, wnext i (show i ≤ 4611686018427387904 by omega)]
    rw [List.drop_eq_getElem_cons hl]
    refine Ev.pos (by omega) (Ev.pos (by omega) ?_)
    by_cases h1 : ((lw t)[i]).toNat < 48
    · have e : Lib.digitVal (lw t)[i] = none := by unfold Lib.digitVal; rw [if_neg (by omega)]
      simp only [Lib.decFrom, e]
      exact Ev.pos (by omega) (Ev.pure _)
    · refine Ev.neg (by omega) ?_
      by_cases h2 : ((lw t)[i]).toNat > 57
      · have e : Lib.digitVal (lw t)[i] = none := by unfold Lib.digitVal; rw [if_neg (by omega)]
        simp only [Lib.decFrom, e]
        exact Ev.pos (by omega) (Ev.pure _)
      · have e : Lib.digitVal (lw t)[i] = some (((lw t)[i]).toNat - 48) := by unfold Lib.digitVal; rw [if_pos (by omega)]
        simp only [Lib.decFrom, e]
        refine Ev.neg (by omega) ?_
        rw [dig_wrap m _ hm6 (by omega) (by omega)]
        exact ih (i + 1) _ (by omega) (by rw [Nat.pow_succ]; omega)
theorem read_ev (s t : ByteArray) (ht : t.size ≤ 6) : Ev (fun k => spec_l1Read.l0 k s t 0 0) (readW s t) := by
  have h := read_l0 s t ht t.size 0 0 (by omega) (by decide)
  rw [List.drop_zero] at h
  exact h
def Own (s : ByteArray) (n : Int) : Prop := -999999 ≤ n ∧ n ≤ 999999 ∧ itoaB n = s
theorem readW_own {s t : ByteArray} (ht : t.size ≤ 6) : readW s t = (0, false) ∨ ∃ n, Own s n ∧ readW s t = (n, true) := by
  unfold readW
  cases h : Lib.decFrom 0 (lw t) with
  | none => exact .inl rfl
  | some m =>
    have h1 := Lib.decFrom_lt _ _ _ h
    have h2 : (10 : Nat) ^ (lw t).length ≤ 10 ^ 6 := Nat.pow_le_pow_right (by decide) (by rw [lw_length]; exact ht)
    have h3 : (10 : Nat) ^ 6 = 1000000 := by decide
    show readEnd s t m = _ ∨ ∃ n, Own s n ∧ readEnd s t m = _
    unfold readEnd
    by_cases q : itoaB (if t.size < s.size then -(m : Int) else (m : Int)) = s
    · rw [if_pos q]
      refine .inr ⟨_, ⟨?_, ?_, q⟩, rfl⟩ <;> split <;> omega
    · rw [if_neg q]; exact .inl rfl
theorem atoi_own {s : ByteArray} {n : Int} (h : Own s n) : Lib.atoiAll s.data.toList = .ok n := by
  obtain ⟨h0, h1, rfl⟩ := h
  have hz := itoaB_size n (by omega) (by omega)
  show Lib.atoiAll (lw (itoaB n)) = _
  rw [itoaB_pw, lw_pw]
  by_cases hn : n < 0
  · obtain ⟨u, rfl⟩ : ∃ u : Nat, n = -(u : Int) := ⟨n.natAbs, by omega⟩
    rw [Lib.itoa_neg u (by omega)]
    have hl := dec_len6 (show u < 1000000 by omega)
    rw [Lib.atoiAll_short _ (by rw [List.length_cons]; omega)]
    obtain ⟨b, r, e, _, _⟩ := dec_head u
    have : Lib.atoi (45 :: Lib.decDigits u) = some (-(u : Int)) := by
      rw [atoi_minus]
      have hd := decFrom_dec u
      rw [e] at hd ⊢
      unfold Lib.decNat
      rw [if_neg (by simp), hd]; rfl
    rw [this]; rfl
  · obtain ⟨u, rfl⟩ : ∃ u : Nat, n = (u : Int) := ⟨n.toNat, by omega⟩
    rw [Lib.itoa_nonneg]
    have hl := dec_len6 (show u < 1000000 by omega)
    rw [Lib.atoiAll_short _ (by omega)]
    obtain ⟨b, r, e, hb0, hb1⟩ := dec_head u
    have : Lib.atoi (Lib.decDigits u) = some (u : Int) := by
      have hd := decFrom_dec u
      rw [e] at hd ⊢
      rw [atoi_plain b r (fun q => by rw [q] at hb0; exact absurd hb0 (by decide)) (fun q => by rw [q] at hb0; exact absurd hb0 (by decide))]
      unfold Lib.decNat
      rw [if_neg (by simp), hd]; rfl
    rw [this]; rfl
theorem parse_own {s : ByteArray} {n : Int} (h : Own s n) : parseV s = (n, true) := by
  unfold parseV
  rw [atoi_own h]
  obtain ⟨h0, h1, h2⟩ := h
  show (if (itoaB n).toList = s.toList ∧ -999999 ≤ n ∧ n ≤ 999999 then (n, true) else (0, false)) = _
  rw [if_pos ⟨by rw [h2], h0, h1⟩]
theorem parse_no {s : ByteArray} (h : ∀ n, ¬ Own s n) : parseV s = (0, false) := by
  unfold parseV
  split
  · rename_i v hv
    rw [if_neg (fun q => h v ⟨q.2.1, q.2.2, (tl_eq _ _).1 q.1⟩)]
  · rfl
def digOf (s : ByteArray) : ByteArray := if s.size > 1 ∧ (lw s)[0]? = some 45 then s.extract 1 s.size else s
theorem dig_own {s : ByteArray} {n : Int} (h : Own s n) : 1 ≤ (digOf s).size ∧ (digOf s).size ≤ 6 ∧ readW s (digOf s) = (n, true) := by
  obtain ⟨h0, h1, hs⟩ := h
  by_cases hn : n < 0
  · obtain ⟨u, rfl⟩ : ∃ u : Nat, n = -(u : Int) := ⟨n.natAbs, by omega⟩
    have hl := dec_len6 (show u < 1000000 by omega)
    obtain ⟨b, r, e, hb0, hb1⟩ := dec_head u
    have hw : lw s = 45 :: Lib.decDigits u := by rw [← hs, itoaB_pw, lw_pw, Lib.itoa_neg u (by omega)]
    have hz : s.size = (Lib.decDigits u).length + 1 := by rw [← lw_length, hw, List.length_cons]
    have hne : 1 ≤ (Lib.decDigits u).length := by rw [e]; simp
    have ht : digOf s = pw (Lib.decDigits u) := by
      unfold digOf
      rw [if_pos ⟨by omega, by rw [hw]; rfl⟩]
      apply lw_inj
      rw [lw_pw]
      unfold lw
      rw [ByteArray.data_extract, Array.toList_extract, List.extract_eq_take_drop]
      show ((lw s).drop 1).take (s.size - 1) = _
      rw [hw, List.drop_succ_cons, List.drop_zero, List.take_of_length_le (by omega)]
    rw [ht, pw_size]
    refine ⟨hne, hl, ?_⟩
    unfold readW
    rw [lw_pw, decFrom_dec]
    show readEnd s _ u = _
    unfold readEnd
    rw [pw_size, if_pos (show (Lib.decDigits u).length < s.size by omega), if_pos hs]
  · obtain ⟨u, rfl⟩ : ∃ u : Nat, n = (u : Int) := ⟨n.toNat, by omega⟩
    have hl := dec_len6 (show u < 1000000 by omega)
    obtain ⟨b, r, e, hb0, hb1⟩ := dec_head u
    have hw : lw s = Lib.decDigits u := by rw [← hs, itoaB_pw, lw_pw, Lib.itoa_nonneg]
    have hz : s.size = (Lib.decDigits u).length := by rw [← lw_length, hw]
    have hne : 1 ≤ (Lib.decDigits u).length := by rw [e]; simp
    have ht : digOf s = s := by
      unfold digOf
      rw [if_neg]
      rintro ⟨_, q⟩
      rw [hw, e] at q
      simp only [List.getElem?_cons_zero, Option.some.injEq] at q
      rw [q] at hb0
      exact absurd hb0 (by decide)
    rw [ht]
    refine ⟨by omega, by omega, ?_⟩
    unfold readW
    rw [hw, decFrom_dec]
    show readEnd s s u = _
    unfold readEnd
    rw [if_neg (Nat.lt_irrefl _), if_pos hs]
theorem spec_read (s : ByteArray) (hs : s.size ≤ 1048576) : Ev (fun k => spec_l1Read.f k s) (if 1 ≤ (digOf s).size ∧ (digOf s).size ≤ 6 then readW s (digOf s) else (0, false)) := by
  have key : ∀ t : ByteArray, Ev (fun k => spec_l1Read.j1 k s t) (if 1 ≤ t.size ∧ t.size ≤ 6 then readW s t else (0, false)) := by
    intro t
    refine Ev.succ ?_
    simp only [spec_l1Read.j1]
    by_cases h : 1 ≤ t.size ∧ t.size ≤ 6
    · rw [if_pos h]
      have e : spec_l1In.f (t.size : Int) 1 6 = some true := by unfold spec_l1In.f; rw [if_pos (by omega), decide_eq_true (by omega)]
      exact Ev.bindc e (Ev.pos rfl (read_ev s t h.2))
    · rw [if_neg h]
      have e : spec_l1In.f (t.size : Int) 1 6 = some false := by
        unfold spec_l1In.f
        by_cases h1 : 1 ≤ t.size
        · rw [if_pos (by omega), decide_eq_false (by omega)]
        · rw [if_neg (by omega)]
      exact Ev.bindc e (Ev.neg (by decide) (Ev.pure _))
  have key0 : ∀ b : Bool, (b = true → 1 ≤ s.size) → Ev (fun k => spec_l1Read.j0 k s s b) (if b = true then (if 1 ≤ (s.extract 1 s.size).size ∧ (s.extract 1 s.size).size ≤ 6 then readW s (s.extract 1 s.size) else (0, false)) else (if 1 ≤ s.size ∧ s.size ≤ 6 then readW s s else (0, false))) := by
    intro b hb
    refine Ev.succ ?_
    simp only [spec_l1Read.j0]
    cases b with
    | true => have := hb rfl; exact Ev.pos rfl (Ev.pos (by omega) (key _))
    | false => exact Ev.neg (by decide) (key _)
  unfold spec_l1Read.f
  by_cases h1 : s.size > 1
  · have hl : 0 < (lw s).length := by rw [lw_length]; omega
    have hb : bt s 0 = (((lw s)[0]).toNat : Int) := bt_lw s 0 hl
    refine Ev.pos (by omega) (Ev.pos (by omega) ?_)
    have k0 := key0 ((bt s 0) == 45) (fun _ => by omega)
    by_cases h45 : (lw s)[0]? = some 45
    · have hd : digOf s = s.extract 1 s.size := by unfold digOf; rw [if_pos ⟨h1, h45⟩]
      rw [List.getElem?_eq_getElem hl, Option.some.injEq] at h45
      have e : (bt s 0 == 45) = true := by rw [hb, h45]; rfl
      rw [e, if_pos rfl] at k0
      rw [e, hd]
      exact k0
    · have hd : digOf s = s := by unfold digOf; rw [if_neg (fun q => h45 q.2)]
      have e : (bt s 0 == 45) = false := by
        rw [hb, beq_eq_false_iff_ne]
        intro q
        apply h45
        rw [List.getElem?_eq_getElem hl]
        exact congrArg some (UInt8.toNat_inj.1 (by show _ = 45; omega))
      rw [e, if_neg (by decide)] at k0
      rw [e, hd]
      exact k0
  · have hd : digOf s = s := by unfold digOf; rw [if_neg (fun q => h1 q.1)]
    have k0 := key0 false (fun h => by cases h)
    rw [if_neg (by decide)] at k0
    rw [hd]
    exact Ev.neg (by omega) k0
theorem both_ParseInt (s : ByteArray) (hs : s.size ≤ 1048576) : ∃ r, Ev (fun k => spec_ParseInt.f k s) r ∧ impl_ParseInt.f s = some r := by
  have e0 : impl_ParseInt.f s = some (parseV s) := by unfold impl_ParseInt.f; rw [if_pos (by omega)]
  have e1 := spec_read s hs
  refine ⟨parseV s, ?_, e0⟩
  unfold spec_ParseInt.f
  refine Ev.bind e1 (Ev.const ?_)
  show some _ = some _
  congr 1
  by_cases h : ∃ n, Own s n
  · obtain ⟨n, hn⟩ := h
    obtain ⟨q1, q2, q3⟩ := dig_own hn
    rw [if_pos ⟨q1, q2⟩, q3, parse_own hn]
  · have hno : ∀ n, ¬ Own s n := fun n hn => h ⟨n, hn⟩
    rw [parse_no hno]
    split
    · rename_i q
      rcases readW_own (s := s) q.2 with e | ⟨n, hn, _⟩
      · rw [e]
      · exact absurd hn (hno n)
    · rfl
end Go.Proofs.YtklddfkhbhkhdaaDoor.Q
namespace Go.Proofs.YtklddfkhbhkhdaaDoor.Q
open Go.RowKit Go.Proofs.YtklddfkhbhkhdaaDoorW.PrintWords Go.Proofs.YtklddfkhbhkhdaaDoorW.PrintLast
theorem sum_l0 (s : ByteArray) (hs : s.size ≤ 1073741824) : ∀ (n i : Nat) (h : Int), i + n = s.size → 0 ≤ h → h < 999979 → ∃ r : Int, 0 ≤ r ∧ r < 999979 ∧ Ev (fun k => spec_l1Sum.l0 k s h (i : Int)) r ∧ Ev (fun k => impl_checksum.l0 k s h (s.size : Int) (i : Int)) r := by
  intro n
  induction n with
  | zero =>
    intro i h hi h0 h1
    refine ⟨h, h0, h1, Ev.succ ?_, Ev.succ ?_⟩
    · simp only [spec_l1Sum.l0]
      exact Ev.neg (by omega) (Ev.pure _)
    · simp only [impl_checksum.l0]
      exact Ev.neg (by omega) (Ev.pure _)
  | succ n ih =>
    intro i h hi h0 h1
    have hl : i < (lw s).length := by rw [lw_length]; omega
    have hb := ((lw s)[i]).toNat_lt
    have e : wrap64 (wrap64 (wrap64 (41 * h) + wrap64 (((lw s)[i]).toNat : Int)) + 1) = 41 * h + (((lw s)[i]).toNat : Int) + 1 := by
      simp only [wrap64]; omega
    have q0 : 0 ≤ Int.tmod (41 * h + (((lw s)[i]).toNat : Int) + 1) 999979 := Int.tmod_nonneg _ (by omega)
    have q1 : Int.tmod (41 * h + (((lw s)[i]).toNat : Int) + 1) 999979 < 999979 := by rw [Int.tmod_eq_emod_of_nonneg (by omega)]; omega
    obtain ⟨r, r0, r1, e1, e2⟩ := ih (i + 1) _ (by omega) q0 q1
    refine ⟨r, r0, r1, Ev.succ ?_, Ev.succ ?_⟩
    · simp only [spec_l1Sum.l0, bt_lw s i hl, e, wnext i (show i ≤ 4611686018427387904 by omega)]
      exact Ev.pos (by omega) (Ev.pos (by omega) e1)
    · simp only [impl_checksum.l0, bt_lw s i hl, e, wnext i (show i ≤ 4611686018427387904 by omega)]
      exact Ev.pos (by omega) (Ev.pos (by omega) (Ev.pos (by omega) e2))
theorem sum_both (s : ByteArray) (hs : s.size ≤ 1073741824) : ∃ r : Int, 0 ≤ r ∧ r < 999979 ∧ Ev (fun k => spec_l1Sum.f k s) r ∧ Ev (fun k => impl_checksum.f k s) r := by
  obtain ⟨r, r0, r1, e1, e2⟩ := sum_l0 s hs s.size 0 7 (by omega) (by omega) (by omega)
  exact ⟨r, r0, r1, by unfold spec_l1Sum.f; exact e1, by unfold impl_checksum.f; exact e2⟩
theorem stands_l0 (s : ByteArray) (c : UInt8) (hs : s.size ≤ 1073741824) : ∀ (n i : Nat), i + n = s.size → Ev (fun k => spec_l1Stands.l0 k s (c.toNat : Int) (i : Int)) (decide (c ∈ (lw s).drop i)) := by
  intro n
  induction n with
  | zero =>
    intro i hi
    refine Ev.succ ?_
    simp only [spec_l1Stands.l0]
    rw [List.drop_of_length_le (by rw [lw_length]; omega)]
    exact Ev.neg (by omega) (Ev.pure _)
  | succ n ih =>
    intro i hi
    have hl : i < (lw s).length := by rw [lw_length]; omega
    refine Ev.succ ?_
    simp only [spec_l1Stands.l0, bt_lw s i hl, wnext i (show i ≤ 4611686018427387904 by omega)]
    refine Ev.pos (by omega) (Ev.pos (by omega) ?_)
    rw [List.drop_eq_getElem_cons hl]
    by_cases e : (lw s)[i] = c
    · rw [e, decide_eq_true (List.mem_cons_self ..)]
      exact Ev.pos rfl (Ev.pure _)
    · refine Ev.neg (fun h => e (UInt8.toNat_inj.1 (by omega))) ?_
      have := ih (i + 1) (by omega)
      rwa [decide_eq_decide.2 (show c ∈ (lw s).drop (i + 1) ↔ c ∈ (lw s)[i] :: (lw s).drop (i + 1) by rw [List.mem_cons]; exact ⟨.inr, fun h => h.resolve_left (fun h => e h.symm)⟩)] at this
theorem stands_ev (s : ByteArray) (c : UInt8) (hs : s.size ≤ 1073741824) : Ev (fun k => spec_l1Stands.f k s (c.toNat : Int)) (decide (c ∈ lw s)) := by
  unfold spec_l1Stands.f
  exact stands_l0 s c hs s.size 0 (by omega)
theorem contains_one (s : ByteArray) (c : UInt8) : strings_Contains.f s ⟨#[c]⟩ = some (decide (c ∈ lw s)) := by
  show some (decide (0 ≤ Lib.indexByte s.data.toList c)) = _
  refine congrArg some (decide_eq_decide.2 ⟨fun h => ?_, fun h => ?_⟩)
  · obtain ⟨o, ho⟩ : ∃ o : Nat, Lib.indexByte s.data.toList c = o := ⟨(Lib.indexByte s.data.toList c).toNat, by omega⟩
    exact List.mem_of_getElem? (Lib.indexByte_some ho).1
  · obtain ⟨j, hj, e⟩ := List.getElem_of_mem h
    have := Lib.indexByte_ge s.data.toList c
    by_cases hn : Lib.indexByte s.data.toList c = -1
    · exact absurd (by rw [← e]; exact List.getElem?_eq_getElem hj) (Lib.indexByte_none hn j)
    · omega
def sealB (s : ByteArray) (r : Int) : ByteArray := (s ++ ⟨#[35]⟩) ++ itoaB r
theorem sealB_size (s : ByteArray) (r : Int) (h0 : 0 ≤ r) (h1 : r < 999979) : (s ++ ⟨#[35]⟩).size + (itoaB r).size ≤ s.size + 22 := by
  have := itoaB_size r (by omega) (by omega)
  rw [ByteArray.size_append]
  show s.size + 1 + _ ≤ _
  omega
theorem seal_ev (s : ByteArray) (r : Int) (hs : s.size ≤ 1073741824) (h0 : 0 ≤ r) (h1 : r < 999979) (h : Ev (fun k => spec_l1Sum.f k s) r) : Ev (fun k => spec_l1Seal.f k s) (sealB s r) := by
  unfold spec_l1Seal.f
  have := sealB_size s r h0 h1
  exact Ev.pos (by omega) (Ev.bind h (Ev.bind (num_ev r (by omega) (by omega)) (Ev.pos (by omega) (Ev.pure _))))
def apnd (s : ByteArray) (r : Int) : ByteArray × Bool := if (35 : UInt8) ∈ lw s ∨ 4000 < (sealB s r).size then (⟨#[]⟩, false) else (sealB s r, true)
theorem implAppend_ev (s : ByteArray) (r : Int) (hs : s.size ≤ 1073741824) (h0 : 0 ≤ r) (h1 : r < 999979) (h : Ev (fun k => impl_checksum.f k s) r) : Ev (fun k => impl_AppendChecksum.f k s) (apnd s r) := by
  unfold impl_AppendChecksum.f apnd
  have := sealB_size s r h0 h1
  have hi : strconv_Itoa.f r = some (itoaB r) := by unfold strconv_Itoa.f; rw [if_pos ⟨by omega, by omega⟩]
  refine Ev.pos (by omega) (Ev.bind h (Ev.bindc hi (Ev.pos (by omega) (Ev.bindc (contains_one s 35) ?_))))
  by_cases hm : (35 : UInt8) ∈ lw s
  · rw [if_pos (show (35 : UInt8) ∈ lw s ∨ 4000 < (sealB s r).size from .inl hm), decide_eq_true hm]
    exact Ev.pos rfl (Ev.pure _)
  · rw [decide_eq_false hm]
    refine Ev.neg (by decide) ?_
    show Ev (fun _ => if ((sealB s r).size : Int) > 4000 then _ else some (sealB s r, true)) _
    by_cases h4 : 4000 < (sealB s r).size
    · rw [if_pos (show (35 : UInt8) ∈ lw s ∨ 4000 < (sealB s r).size from .inr h4)]
      exact Ev.pos (by omega) (Ev.pure _)
    · rw [if_neg (show ¬ ((35 : UInt8) ∈ lw s ∨ 4000 < (sealB s r).size) from fun q => q.elim hm h4)]
      exact Ev.neg (by omega) (Ev.pure _)
end Go.Proofs.YtklddfkhbhkhdaaDoor.Q
namespace Go.Proofs.YtklddfkhbhkhdaaDoor.Q
open Go
def pieces (b : UInt8) : List UInt8 → List (List UInt8)
  | [] => [[]]
  | c :: r => if c = b then [] :: pieces b r else match pieces b r with
    | [] => [[c]]
    | p :: ps => (c :: p) :: ps
theorem pieces_none (b : UInt8) : ∀ l : List UInt8, (∀ x ∈ l, x ≠ b) → pieces b l = [l]
  | [], _ => rfl
  | c :: r, h => by
    unfold pieces
    rw [if_neg (h c (List.mem_cons_self ..)), pieces_none b r (fun x hx => h x (List.mem_cons_of_mem _ hx))]
theorem pieces_at (b : UInt8) : ∀ (l : List UInt8) (i : Nat), l[i]? = some b → (∀ x ∈ l.take i, x ≠ b) → pieces b l = l.take i :: pieces b (l.drop (i + 1))
  | [], i, h, _ => by simp at h
  | c :: r, 0, h, _ => by
    simp only [List.getElem?_cons_zero, Option.some.injEq] at h
    rw [pieces, if_pos h]
    rfl
  | c :: r, i + 1, h, hn => by
    have h2 : r[i]? = some b := by simpa using h
    have ih := pieces_at b r i h2 (fun x hx => hn x (by rw [List.take_succ_cons]; exact List.mem_cons_of_mem _ hx))
    have hc : c ≠ b := hn c (by rw [List.take_succ_cons]; exact List.mem_cons_self ..)
    rw [pieces, if_neg hc, ih]
    rfl
theorem occ_one (s : List UInt8) (c : UInt8) (i : Nat) : Lib.occAt s [c] i = true ↔ s[i]? = some c := by
  unfold Lib.occAt
  have h := List.getElem?_drop (xs := s) (i := i) (j := 0)
  rw [Nat.add_zero] at h
  rw [← h]
  cases s.drop i with
  | nil => simp
  | cons a r =>
    simp only [List.isPrefixOf, Bool.and_true, List.getElem?_cons_zero, Option.some.injEq, beq_iff_eq]
    exact eq_comm
theorem index_one (s : List UInt8) (c : UInt8) : (Lib.index s [c] = -1 ∧ ∀ x ∈ s, x ≠ c) ∨ ∃ i : Nat, Lib.index s [c] = i ∧ s[i]? = some c ∧ ∀ x ∈ s.take i, x ≠ c := by
  rcases Lib.index_spec s [c] with ⟨h, hn⟩ | ⟨i, h, hi, ho, hn⟩
  · refine .inl ⟨h, fun x hx e => ?_⟩
    obtain ⟨j, hj, rfl⟩ := List.getElem_of_mem hx
    have := hn j (by omega)
    rw [Bool.eq_false_iff] at this
    exact this ((occ_one s c j).2 (by rw [List.getElem?_eq_getElem hj, e]))
  · refine .inr ⟨i, h, (occ_one s c i).1 ho, fun x hx e => ?_⟩
    obtain ⟨j, hj, rfl⟩ := List.getElem_of_mem hx
    rw [List.length_take] at hj
    have := hn j (by omega)
    rw [Bool.eq_false_iff] at this
    refine this ((occ_one s c j).2 ?_)
    rw [List.getElem_take] at e
    rw [List.getElem?_eq_getElem (by omega), e]
end Go.Proofs.YtklddfkhbhkhdaaDoor.Q
namespace Go.Proofs.YtklddfkhbhkhdaaDoor.Q
open Go.RowKit Go.Proofs.YtklddfkhbhkhdaaDoorW.PrintWords Go.Proofs.YtklddfkhbhkhdaaDoorW.PrintLast
theorem pieces_head (b : UInt8) : ∀ l : List UInt8, ∃ q qs, pieces b l = q :: qs ∧ b ∉ q ∧ ((q = l ∧ b ∉ l) ∨ ∃ r, l = q ++ b :: r)
  | [] => ⟨[], [], rfl, by simp, .inl ⟨rfl, by simp⟩⟩
  | c :: r => by
    rw [pieces]
    by_cases e : c = b
    · rw [if_pos e]
      exact ⟨[], _, rfl, by simp, .inr ⟨r, by rw [e]; rfl⟩⟩
    · rw [if_neg e]
      obtain ⟨q, qs, h1, h2, h3⟩ := pieces_head b r
      rw [h1]
      refine ⟨c :: q, qs, rfl, fun h => (List.mem_cons.1 h).elim (fun h => e h.symm) h2, ?_⟩
      rcases h3 with ⟨rfl, h3⟩ | ⟨t, rfl⟩
      · exact .inl ⟨rfl, fun h => (List.mem_cons.1 h).elim (fun h => e h.symm) h3⟩
      · exact .inr ⟨t, rfl⟩
end Go.Proofs.YtklddfkhbhkhdaaDoor.Q
namespace Go.Proofs.YtklddfkhbhkhdaaDoor.Q
open Go.RowKit Go.Proofs.YtklddfkhbhkhdaaDoorW.PrintWords Go.Proofs.YtklddfkhbhkhdaaDoorW.PrintLast
set_option linter.unusedVariables false
theorem cut_head (s : ByteArray) (b : UInt8) {q : List UInt8} {qs : List (List UInt8)} (h : pieces b (lw s) = q :: qs) : (cutOf s ⟨#[b]⟩).1 = q := by
  show (Lib.cut (lw s) [b]).1 = q
  unfold Lib.cut
  rcases index_one (lw s) b with ⟨h1, hn⟩ | ⟨i, h1, hc, hn⟩
  · rw [if_neg (by omega)]
    rw [pieces_none b _ hn] at h
    injection h
  · rw [if_pos (by omega), h1]
    rw [pieces_at b _ i hc hn] at h
    injection h
def sumI (h : Int) (l : List UInt8) : Int := l.foldl (fun h b => (41 * h + (b.toNat : Int) + 1) % 999979) h
theorem sumI_bound : ∀ (l : List UInt8) (h : Int), 0 ≤ h → h < 999979 → 0 ≤ sumI h l ∧ sumI h l < 999979
  | [], h, h0, h1 => ⟨h0, h1⟩
  | b :: l, h, h0, h1 => sumI_bound l ((41 * h + (b.toNat : Int) + 1) % 999979) (by omega) (by omega)
theorem sumI_inj : ∀ (l : List UInt8) (h g : Int), 0 ≤ h → h < 999979 → 0 ≤ g → g < 999979 → sumI h l = sumI g l → h = g
  | [], h, g, _, _, _, _, e => e
  | b :: l, h, g, h0, h1, g0, g1, e => by
    have := sumI_inj l ((41 * h + (b.toNat : Int) + 1) % 999979) ((41 * g + (b.toNat : Int) + 1) % 999979) (by omega) (by omega) (by omega) (by omega) e
    omega
theorem sumI_app (h : Int) (l r : List UInt8) : sumI h (l ++ r) = sumI (sumI h l) r := by unfold sumI; rw [List.foldl_append]
theorem sumI_one (l r : List UInt8) (b c : UInt8) (hne : b ≠ c) : sumI 7 (l ++ b :: r) ≠ sumI 7 (l ++ c :: r) := by
  intro e
  rw [sumI_app, sumI_app] at e
  obtain ⟨h0, h1⟩ := sumI_bound l 7 (by omega) (by omega)
  generalize sumI 7 l = h at e h0 h1
  have e2 := sumI_inj r ((41 * h + (b.toNat : Int) + 1) % 999979) ((41 * h + (c.toNat : Int) + 1) % 999979) (by omega) (by omega) (by omega) (by omega) e
  have hb := b.toNat_lt
  have hc := c.toNat_lt
  exact hne (UInt8.toNat_inj.1 (by omega))
theorem sum_val (s : ByteArray) (hs : s.size ≤ 1073741824) : Ev (fun k => impl_checksum.f k s) (sumI 7 (lw s)) := by
  have key : ∀ (n i : Nat) (h : Int), i + n = s.size → 0 ≤ h → h < 999979 → Ev (fun k => impl_checksum.l0 k s h (s.size : Int) (i : Int)) (sumI h ((lw s).drop i)) := by
    intro n
    induction n with
    | zero =>
      intro i h hi h0 h1
      refine Ev.succ ?_
      simp only [impl_checksum.l0]
      rw [List.drop_of_length_le (by rw [lw_length]; omega)]
      exact Ev.neg (by omega) (Ev.pure _)
    | succ n ih =>
      intro i h hi h0 h1
      have hl : i < (lw s).length := by rw [lw_length]; omega
      have hb := ((lw s)[i]).toNat_lt
      have e : wrap64 (wrap64 (wrap64 (41 * h) + wrap64 (((lw s)[i]).toNat : Int)) + 1) = 41 * h + (((lw s)[i]).toNat : Int) + 1 := by
        simp only [wrap64]; omega
      have em : Int.tmod (41 * h + (((lw s)[i]).toNat : Int) + 1) 999979 = (41 * h + (((lw s)[i]).toNat : Int) + 1) % 999979 := Int.tmod_eq_emod_of_nonneg (by omega)
      refine Ev.succ ?_
      simp only [impl_checksum.l0, bt_lw s i hl, e, em, wnext i (show i ≤ 4611686018427387904 by omega)]
      rw [List.drop_eq_getElem_cons hl]
      exact Ev.pos (by omega) (Ev.pos (by omega) (Ev.pos (by omega) (ih (i + 1) _ (by omega) (by omega) (by omega))))
  unfold impl_checksum.f
  exact key s.size 0 7 (by omega) (by omega) (by omega)
theorem split_one {b : UInt8} : ∀ {l1 l2 r1 r2 : List UInt8}, b ∉ l1 → b ∉ l2 → l1 ++ b :: r1 = l2 ++ b :: r2 → l1 = l2 ∧ r1 = r2
  | [], [], r1, r2, _, _, e => ⟨rfl, by injection e⟩
  | [], c :: l2, r1, r2, _, h2, e => by injection e with e1 _; exact absurd (by rw [e1]; exact List.mem_cons_self) h2
  | c :: l1, [], r1, r2, h1, _, e => by injection e with e1 _; exact absurd (by rw [e1]; exact List.mem_cons_self) h1
  | c :: l1, d :: l2, r1, r2, h1, h2, e => by
    injection e with e1 e2
    obtain ⟨a1, a2⟩ := split_one (fun h => h1 (List.mem_cons_of_mem _ h)) (fun h => h2 (List.mem_cons_of_mem _ h)) e2
    exact ⟨by rw [e1, a1], a2⟩
theorem split_gone {b : UInt8} {l1 l2 r1 r2 : List UInt8} (h1 : b ∉ l1) (h2 : b ∉ r1) (e : l1 ++ b :: r1 = l2 ++ b :: r2) : b ∉ l2 ∧ b ∉ r2 := by
  have c := congrArg (List.count b) e
  rw [List.count_append, List.count_append, List.count_cons_self, List.count_cons_self, List.count_eq_zero.2 h1, List.count_eq_zero.2 h2] at c
  exact ⟨List.count_eq_zero.1 (by omega), List.count_eq_zero.1 (by omega)⟩
theorem dec_no (u : Nat) : (35 : UInt8) ∉ Lib.decDigits u := by
  intro h
  have hd := decFrom_dec u
  revert hd
  generalize Lib.decDigits u = l at h
  suffices hh : ∀ (l : List UInt8) (a m : Nat), (35 : UInt8) ∈ l → Lib.decFrom a l ≠ some m from fun e => hh l 0 u h e
  intro l
  induction l with
  | nil => intro a m h; cases h
  | cons c l ih =>
    intro a m h e
    rcases List.mem_cons.1 h with rfl | h
    · have : Lib.digitVal 35 = none := by decide
      simp [Lib.decFrom, this] at e
    · unfold Lib.decFrom at e
      cases hv : Lib.digitVal c with
      | none => rw [hv] at e; simp at e
      | some v => rw [hv] at e; exact ih _ _ h e
theorem dec_inj {u v : Nat} (h : Lib.decDigits u = Lib.decDigits v) : u = v := by
  have h1 := decFrom_dec u
  rw [h, decFrom_dec v] at h1
  exact (Option.some.inj h1).symm
def sealL (l : List UInt8) : List UInt8 := l ++ 35 :: Lib.decDigits (sumI 7 l).toNat
theorem seal_list (s : ByteArray) : lw (sealB s (sumI 7 (lw s))) = sealL (lw s) := by
  obtain ⟨h0, h1⟩ := sumI_bound (lw s) 7 (by omega) (by omega)
  obtain ⟨u, hu⟩ : ∃ u : Nat, sumI 7 (lw s) = (u : Int) := ⟨(sumI 7 (lw s)).toNat, by omega⟩
  unfold sealB sealL
  rw [hu, itoaB_pw, Lib.itoa_nonneg, lw_append, lw_append, lw_pw, Int.toNat_natCast]
  show (lw s ++ [35]) ++ _ = _
  simp
theorem changed_not {X T : List UInt8} (hX : (35 : UInt8) ∉ X) (hT : (35 : UInt8) ∉ T) {q : Nat} {v : UInt8} (hq : q < (sealL X).length) (hv : (sealL X)[q] ≠ v) : (sealL X).set q v ≠ sealL T := by
  intro e
  have hd := dec_no (sumI 7 X).toNat
  have hd2 := dec_no (sumI 7 T).toNat
  obtain ⟨x0, x1⟩ := sumI_bound X 7 (by omega) (by omega)
  obtain ⟨t0, t1⟩ := sumI_bound T 7 (by omega) (by omega)
  have hl : (sealL X).length = X.length + 1 + (Lib.decDigits (sumI 7 X).toNat).length := by unfold sealL; simp; omega
  by_cases h1 : q < X.length
  · have e1 : (sealL X).set q v = X.set q v ++ 35 :: Lib.decDigits (sumI 7 X).toNat := by unfold sealL; rw [List.set_append_left _ _ h1]
    have e2 : X.set q v ++ 35 :: Lib.decDigits (sumI 7 X).toNat = T ++ 35 :: Lib.decDigits (sumI 7 T).toNat := e1.symm.trans e
    obtain ⟨g1, g2⟩ := split_gone hT hd2 e2.symm
    obtain ⟨k1, k2⟩ := split_one g1 hT e2
    have hs := dec_inj k2
    have hb : (sealL X)[q] = X[q] := List.getElem_append_left h1
    rw [hb] at hv
    have eX : X = X.take q ++ X[q] :: X.drop (q + 1) := by rw [List.getElem_cons_drop, List.take_append_drop]
    have eT : T = X.take q ++ v :: X.drop (q + 1) := by rw [← k1, List.set_eq_take_append_cons_drop, if_pos h1]
    have hne := sumI_one (X.take q) (X.drop (q + 1)) X[q] v hv
    rw [← eX, ← eT] at hne
    omega
  · by_cases h2 : q = X.length
    · subst h2
      have e1 : (sealL X).set X.length v = X ++ v :: Lib.decDigits (sumI 7 X).toNat := by unfold sealL; rw [List.set_append_right _ _ (Nat.le_refl _)]; simp
      have hb : (sealL X)[X.length] = 35 := Option.some.inj ((List.getElem?_eq_getElem hq).symm.trans (by unfold sealL; rw [List.getElem?_append_right (Nat.le_refl _)]; simp))
      rw [hb] at hv
      have hm : (35 : UInt8) ∈ X ++ v :: Lib.decDigits (sumI 7 X).toNat := by rw [← e1, e]; unfold sealL; exact List.mem_append_right _ List.mem_cons_self
      rcases List.mem_append.1 hm with h | h
      · exact hX h
      · rcases List.mem_cons.1 h with h | h
        · exact hv h
        · exact hd h
    · obtain ⟨j, rfl⟩ : ∃ j, q = X.length + (j + 1) := ⟨q - X.length - 1, by omega⟩
      have hj : j < (Lib.decDigits (sumI 7 X).toNat).length := by omega
      have e1 : (sealL X).set (X.length + (j + 1)) v = X ++ 35 :: (Lib.decDigits (sumI 7 X).toNat).set j v := by unfold sealL; rw [List.set_append_right _ _ (by omega)]; simp
      have e2 : X ++ 35 :: (Lib.decDigits (sumI 7 X).toNat).set j v = T ++ 35 :: Lib.decDigits (sumI 7 T).toNat := e1.symm.trans e
      obtain ⟨k1, k2⟩ := split_one hX hT e2
      rw [← k1] at k2
      have hb : (sealL X)[X.length + (j + 1)] = (Lib.decDigits (sumI 7 X).toNat)[j] := Option.some.inj ((List.getElem?_eq_getElem hq).symm.trans (by unfold sealL; rw [List.getElem?_append_right (by omega)]; simp [hj]))
      rw [hb] at hv
      have k3 := congrArg (fun l => l[j]?) k2
      simp only [List.getElem?_set_self hj, List.getElem?_eq_getElem hj] at k3
      exact hv (Option.some.inj k3).symm
theorem verify_val (s : ByteArray) (hs : s.size ≤ 1048576) : ∃ q : List UInt8, (35 : UInt8) ∉ q ∧ ((q = lw s ∧ (35 : UInt8) ∉ lw s) ∨ ∃ r, lw s = q ++ 35 :: r) ∧ Ev (fun k => impl_VerifyChecksum.f k s) (if lw s = sealL q ∧ s.size ≤ 4000 then (pw q, true) else (⟨#[]⟩, false)) := by
  obtain ⟨q, qs, hp, hq, hr⟩ := pieces_head 35 (lw s)
  have hql : q.length ≤ s.size := by
    rw [← lw_length]
    rcases hr with ⟨rfl, _⟩ | ⟨t, e⟩
    · exact Nat.le_refl _
    · rw [e, List.length_append]; omega
  have hts : (pw q).size ≤ 1073741824 := by rw [pw_size]; omega
  refine ⟨q, hq, hr, ?_⟩
  have e2 := sum_val (pw q) hts
  obtain ⟨r0, r1⟩ := sumI_bound (lw (pw q)) 7 (by omega) (by omega)
  have hA := implAppend_ev (pw q) _ hts r0 r1 e2
  have hcut : strings_Cut.f s ⟨#[35]⟩ = some (pw q, ⟨(cutOf s ⟨#[35]⟩).2.1.toArray⟩, (cutOf s ⟨#[35]⟩).2.2) := by
    unfold strings_Cut.f
    rw [if_pos (by omega), cut_head s 35 hp]; rfl
  have hm : (35 : UInt8) ∉ lw (pw q) := by rw [lw_pw]; exact hq
  have hsl := seal_list (pw q)
  rw [lw_pw] at hsl
  have heq : sealB (pw q) (sumI 7 (lw (pw q))) = s ↔ lw s = sealL q := by
    rw [lw_pw]
    exact ⟨fun e => by rw [← e]; exact hsl, fun e => lw_inj (hsl.trans e.symm)⟩
  unfold impl_VerifyChecksum.f
  refine Ev.bindc hcut (Ev.bind hA ?_)
  unfold apnd
  by_cases h5 : 4000 < (sealB (pw q) (sumI 7 (lw (pw q)))).size
  · rw [if_pos (show (35 : UInt8) ∈ lw (pw q) ∨ 4000 < (sealB (pw q) (sumI 7 (lw (pw q)))).size from .inr h5)]
    have hres : (if lw s = sealL q ∧ s.size ≤ 4000 then (pw q, true) else ((⟨#[]⟩ : ByteArray), false)) = (⟨#[]⟩, false) := if_neg (fun h => by rw [heq.2 h.1] at h5; omega)
    rw [hres]
    exact Ev.neg (by decide) (Ev.pure _)
  · rw [if_neg (show ¬ ((35 : UInt8) ∈ lw (pw q) ∨ 4000 < (sealB (pw q) (sumI 7 (lw (pw q)))).size) from fun z => z.elim hm h5)]
    by_cases he : sealB (pw q) (sumI 7 (lw (pw q))) = s
    · have hres : (if lw s = sealL q ∧ s.size ≤ 4000 then (pw q, true) else ((⟨#[]⟩ : ByteArray), false)) = (pw q, true) := if_pos ⟨heq.1 he, by rw [he] at h5; omega⟩
      rw [hres]
      exact Ev.pos rfl (Ev.pos (by rw [he]) (Ev.pure _))
    · have hres : (if lw s = sealL q ∧ s.size ≤ 4000 then (pw q, true) else ((⟨#[]⟩ : ByteArray), false)) = (⟨#[]⟩, false) := if_neg (fun h => he (heq.2 h.1))
      rw [hres]
      exact Ev.pos rfl (Ev.neg (fun e => he ((tl_eq _ _).1 e)) (Ev.pure _))
theorem verify_seal (x : ByteArray) (hx : (35 : UInt8) ∉ lw x) (hs : (sealB x (sumI 7 (lw x))).size ≤ 4000) : Ev (fun k => impl_VerifyChecksum.f k (sealB x (sumI 7 (lw x)))) (x, true) := by
  obtain ⟨q, h1, h2, h3⟩ := verify_val (sealB x (sumI 7 (lw x))) (by omega)
  have hq : q = lw x := by
    rw [seal_list] at h2
    rcases h2 with ⟨_, h2⟩ | ⟨r, h2⟩
    · exact absurd (List.mem_append_right _ List.mem_cons_self) h2
    · exact (split_one hx h1 h2).1.symm
  rw [hq, if_pos ⟨seal_list x, hs⟩, pw_lw] at h3
  exact h3
theorem verify_changed (x : ByteArray) (hx : (35 : UInt8) ∉ lw x) (hs : (sealB x (sumI 7 (lw x))).size ≤ 4000) {q : Nat} {v : UInt8} (hq : q < (sealL (lw x)).length) (hv : (sealL (lw x))[q] ≠ v) : Ev (fun k => impl_VerifyChecksum.f k (pw ((sealL (lw x)).set q v))) (⟨#[]⟩, false) := by
  have hl : (sealL (lw x)).length ≤ 4000 := by rw [← seal_list, lw_length]; exact hs
  obtain ⟨p, h1, h2, h3⟩ := verify_val (pw ((sealL (lw x)).set q v)) (by rw [pw_size, List.length_set]; omega)
  rw [lw_pw, if_neg (fun h => changed_not hx h1 hq hv h.1)] at h3
  exact h3
end Go.Proofs.YtklddfkhbhkhdaaDoor.Q
namespace Go.Proofs.YtklddfkhbhkhdaaDoor.Q
open Go.RowKit Go.Proofs.YtklddfkhbhkhdaaDoorW.PrintWords Go.Proofs.YtklddfkhbhkhdaaDoorW.PrintLast
theorem both_FormatInt (n : Int) : ∃ r, Ev (fun k => spec_FormatInt.f k n) r ∧ impl_FormatInt.f n = some r := by
  unfold spec_FormatInt.f impl_FormatInt.f spec_l1In.f impl_in.f strconv_Itoa.f
  by_cases h0 : n ≥ -999999
  · by_cases h1 : n ≤ 999999
    · refine ⟨(itoaB n, true), ?_, ?_⟩
      · rw [if_pos h0, decide_eq_true h1]
        exact Ev.bindc rfl (Ev.pos rfl (Ev.bind (num_ev n (by omega) (by omega)) (Ev.pure _)))
      · rw [if_pos h0, decide_eq_true h1, Option.bind_some, if_pos rfl, if_pos ⟨by omega, by omega⟩, Option.bind_some]
    · refine ⟨(⟨#[]⟩, false), ?_, ?_⟩
      · rw [if_pos h0, decide_eq_false h1]
        exact Ev.bindc rfl (Ev.neg (by decide) (Ev.pure _))
      · rw [if_pos h0, decide_eq_false h1, Option.bind_some, if_neg (by decide)]
  · refine ⟨(⟨#[]⟩, false), ?_, ?_⟩
    · rw [if_neg h0]
      exact Ev.bindc rfl (Ev.neg (by decide) (Ev.pure _))
    · rw [if_neg h0, Option.bind_some, if_neg (by decide)]
end Go.Proofs.YtklddfkhbhkhdaaDoor.Q
namespace Go.Proofs.YtklddfkhbhkhdaaDoor.Q
open Go.RowKit Go.Proofs.YtklddfkhbhkhdaaDoorW.PrintWords Go.Proofs.YtklddfkhbhkhdaaDoorW.PrintLast
theorem specAppend_ev (s : ByteArray) (r : Int) (hs : s.size ≤ 1073741824) (h0 : 0 ≤ r) (h1 : r < 999979) (h : Ev (fun k => spec_l1Sum.f k s) r) : Ev (fun k => spec_AppendChecksum.f k s) (apnd s r) := by
  unfold spec_AppendChecksum.f apnd
  have hz : s.size + 1 ≤ (sealB s r).size := by
    unfold sealB
    rw [ByteArray.size_append, ByteArray.size_append]
    show _ ≤ s.size + 1 + _
    omega
  by_cases h4 : s.size > 4000
  · rw [if_pos (show (35 : UInt8) ∈ lw s ∨ 4000 < (sealB s r).size from .inr (by omega))]
    exact Ev.pos (by omega) (Ev.pure _)
  · refine Ev.neg (by omega) (Ev.bind (stands_ev s 35 hs) ?_)
    by_cases hm : (35 : UInt8) ∈ lw s
    · rw [if_pos (show (35 : UInt8) ∈ lw s ∨ 4000 < (sealB s r).size from .inl hm), decide_eq_true hm]
      exact Ev.pos rfl (Ev.pure _)
    · rw [decide_eq_false hm]
      have e := seal_ev s r hs h0 h1 h
      refine Ev.neg (by decide) (Ev.bind e ?_)
      by_cases h4 : 4000 < (sealB s r).size
      · rw [if_pos (show (35 : UInt8) ∈ lw s ∨ 4000 < (sealB s r).size from .inr h4)]
        exact Ev.pos (by omega) (Ev.pure _)
      · rw [if_neg (show ¬ ((35 : UInt8) ∈ lw s ∨ 4000 < (sealB s r).size) from fun q => q.elim hm h4)]
        exact Ev.neg (by omega) (Ev.bind e (Ev.pure _))
end Go.Proofs.YtklddfkhbhkhdaaDoor.Q
