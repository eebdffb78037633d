/- The law FnSplitJoin: for every input the call answers true and leaves its arguments as they were. -/
import Derived.Test.YtklddfkhbhkhdaaDoorBwWords
import Derived.Test.YtklddfkhbhkhdaaDoorBwLast
import Derived.Test.YtklddfkhbhkhdaaDoorBwApart
import Derived.Test.YtklddfkhbhkhdaaDoorBwFoot
import Derived.Test.YtklddfkhbhkhdaaDoorBwKept
import Derived.Test.YtklddfkhbhkhdaaDoorBwShare
import Derived.Test.YtklddfkhbhkhdaaDoorBwN
import Derived.Test.YtklddfkhbhkhdaaDoorBwRepsOne
import Derived.Test.YtklddfkhbhkhdaaDoorBwMore
import Derived.Test.YtklddfkhbhkhdaaDoorProg
import Derived.Below
import Derived.Deep.Draws
import Derived.Deep.AppendLies
import Derived.Maps.AppendAt
import Derived.OwnWalk
import Derived.Laws.BytesArg
import Derived.Laws.MakeOwn
import Derived.Laws.OwnMore
import Derived.Deep.OwnRows
import Derived.Tactics
import Derived.Lib.ConvBytes
import Derived.Laws.Slices
import Derived.WalkKit
import Derived.KernelRfl
import Derived.RowKit3
import Derived.Deep.LoopGhost
import Derived.Deep.QuietTactic
import Derived.BigQuiet
import Derived.WideLaws
import Derived.Deep.DeepCutAuto
import Derived.Deep.CutBlock
import Derived.Deep.RegionHeld3
import Derived.Laws.Rows
import Derived.Lib.AppendStr
import Derived.ArgAppend
import Derived.Laws.IdiomCopy
import Derived.OrdersHeld
import Derived.Laws.BitsLemmas
import Derived.RowKit
import Derived.Shelf.Strings.SlTrimAscii
import Derived.Ground.NamesProg
import Derived.Ground.SlgfProg
import Derived.Lib.ItoaNum
import Derived.Lib.LaidTab
import Derived.Lib.SmallJoins
import Derived.Lib.SlicesCompact
import Derived.Lib.OwnBridge
import Derived.Sort.OwnSorted
import Derived.Sort.Grow
import Derived.Shelf.Strings.SplitShaped
import Derived.Lib.SplitLaws
import Derived.Shelf.Strings.Search3
import Derived.Shelf.Strings.OnBuilder
import Derived.Lib.IndexAny
import Derived.Lib.Join
import Derived.Lib.Strings
import Derived.Sort.Walk0
import Derived.ChangeSlices
import Derived.ChangeSame
import Derived.ChangeArms
import Derived.WideShapes
import Derived.SizedLaws
import Derived.Shelf.Vars
import Derived.Test.YtklddfkhbhkhdaaDoorRows
import Derived.Test.YtklddfkhbhkhdaaDoorTie
import Derived.Test.YtklddfkhbhkhdaaDoorCards
import Derived.ProofKit
import Derived.OpenShut
import Derived.ShutString
import Derived.ChangeOld
import Derived.Carry
import Derived.LaidMore
import Derived.Lay
import Derived.SevenTiedAt
import Derived.Stop.Joined
set_option linter.unusedVariables false
set_option linter.unusedSimpArgs false
namespace Go.Proofs.YtklddfkhbhkhdaaDoor.Q
open Go.RowKit Go.Proofs.YtklddfkhbhkhdaaDoorW.PrintWords Go.Proofs.YtklddfkhbhkhdaaDoorW.PrintLast Go.Proofs.YtklddfkhbhkhdaaDoorW.PrintMore
attribute [local go_sem] max2_int min2_int max_two min_two max_three min_three max_four min_four   -- for this text's walks alone
set_option linter.unusedVariables false
set_option linter.unusedSimpArgs false
def errW : Option Int → Value
  | none => .nilIface
  | some c => .iface 0 (.int .i64 c)
theorem errW_none : errW none = .nilIface := rfl
theorem errW_some (c : Int) : errW (some c) = .iface 0 (.int .i64 c) := rfl
theorem info9 : (Tryd.prog.info? 9).map (fun i => (i.zero, i.size, i.bytes)) = some (some (.string ⟨#[]⟩), 1, 16) := by kernel_rfl
def Sep (u v : Value) : Prop := ∀ k, u.ownBlock = some k → v.ownBlock = some k → False
theorem Sep.symm {u v : Value} (h : Sep u v) : Sep v u := fun k a b => h k b a
theorem isSome_setCell (w : World) (a b : Addr) (v : Value) : ((w.setCell a v).cell? b).isSome = (w.cell? b).isSome := by
  by_cases e : a = b
  · subst e
    simp only [World.setCell, World.cell?, Array.getElem?_modify, ↓reduceIte]
    cases w.heap[a.block]? with
    | none => rfl
    | some o =>
      cases o with
      | cells c t f =>
        simp only [Option.map_some]
        cases a.spot with
        | some z => simp
        | none => by_cases h : a.off < c.size <;> simp [h]
      | _ => rfl
  · rw [World.cell?_setCell_other _ _ _ _ e]
theorem run_field_156 (v : Value) (w : World) : Sem.run Tryd.prog (Instr.field 156 (.agg #[v]) 0) w = .ok v w := by kernel_rfl
theorem run_field_157 (v : Value) (w : World) : Sem.run Tryd.prog (Instr.field 157 (.agg #[v]) 0) w = .ok v w := by kernel_rfl
end Go.Proofs.YtklddfkhbhkhdaaDoor.Q
namespace Go.Proofs.YtklddfkhbhkhdaaDoor.Q
open Go.RowKit Go.Proofs.YtklddfkhbhkhdaaDoorW.PrintWords Go.Proofs.YtklddfkhbhkhdaaDoorW.PrintLast Go.Proofs.YtklddfkhbhkhdaaDoorW.PrintMore
attribute [local go_sem] run_field_156 run_field_157 isSome_setCell max2_int min2_int max_two min_two max_three min_three max_four min_four   -- for this text's walks alone
set_option linter.unusedVariables false
set_option linter.unusedSimpArgs false
def IsS48 (w0 W : World) (g : Nat) (f0 : List Int) (f1 : Int) (f2 : Int) : Prop := ∃ A0 c0, W.heap[g]? = some (.cells #[.slice A0 f0.length c0, .int .i64 f1, .int .u64 f2] 48 (0, 0)) ∧ w0.heap.size ≤ g ∧ Kd.C (Kd.int .u8) w0 A0 f0.length f0
theorem IsS48.grown {w0 W : World} {g : Nat} {f0 : List Int} {f1 : Int} {f2 : Int} {W1 : World} {row : Option Nat} (h : IsS48 w0 W g f0 f1 f2) (hw : W.grownBy W1 row) (hne : some g ≠ row) : IsS48 w0 W1 g f0 f1 f2 := by
  obtain ⟨A0, c0, hb, hg, hr0⟩ := h
  exact ⟨A0, c0, blk_grown hb hw hne, hg, hr0⟩
theorem IsS48.below {w0 W : World} {g : Nat} {f0 : List Int} {f1 : Int} {f2 : Int} {W1 : World} (h : IsS48 w0 W g f0 f1 f2) (hw : Below W.heap.size W W1) : IsS48 w0 W1 g f0 f1 f2 := h.grown (grown_of_below hw none) (by simp)
theorem IsS48.alloc {w0 W : World} {g : Nat} {f0 : List Int} {f1 : Int} {f2 : Int} (h : IsS48 w0 W g f0 f1 f2) (o : Obj) : IsS48 w0 (W.alloc o) g f0 f1 f2 := h.below (below_alloc (Below.refl _ _) o)
theorem IsS48.drewN {w0 W : World} {g : Nat} {f0 : List Int} {f1 : Int} {f2 : Int} (h : IsS48 w0 W g f0 f1 f2) (m : Nat) : IsS48 w0 (W.drewN m) g f0 f1 f2 := h
theorem IsS48.drew {w0 W : World} {g : Nat} {f0 : List Int} {f1 : Int} {f2 : Int} (h : IsS48 w0 W g f0 f1 f2) : IsS48 w0 W.drew g f0 f1 f2 := h
theorem IsS48.apart {w0 W : World} {g : Nat} {f0 : List Int} {f1 : Int} {f2 : Int} {α : Type} {d : Kd α} {e : Nat} {base : Nat} {ok : Nat → Prop} {v : Value} {xs : List α} (h : IsS48 w0 W g f0 f1 f2) (ho : d.R e W base ok v xs) (ht : ∀ q, q ∈ e :: d.E → q ≠ 48) : d.R e W base (fun k => ok k ∧ k ≠ g) v xs := by
  obtain ⟨A0, c0, hb, hg, hr0⟩ := h
  exact Kd.R_types ho hb ht
theorem IsS48.own_ne {w0 W : World} {g : Nat} {f0 : List Int} {f1 : Int} {f2 : Int} {α : Type} {d : Kd α} {e : Nat} {base : Nat} {ok : Nat → Prop} {v : Value} {xs : List α} (h : IsS48 w0 W g f0 f1 f2) (ho : d.R e W base ok v xs) (ht : e ≠ 48) : some g ≠ v.ownBlock := by
  obtain ⟨A0, c0, hb, hg, hr0⟩ := h
  exact Kd.R_ne ho hb ht
theorem IsS48.lt {w0 W : World} {g : Nat} {f0 : List Int} {f1 : Int} {f2 : Int} (h : IsS48 w0 W g f0 f1 f2) : g < W.heap.size := by
  obtain ⟨A0, c0, hb, hg, hr0⟩ := h
  exact blk_lt hb
theorem IsS48.ge {w0 W : World} {g : Nat} {f0 : List Int} {f1 : Int} {f2 : Int} (h : IsS48 w0 W g f0 f1 f2) : w0.heap.size ≤ g := by
  obtain ⟨A0, c0, hb, hg, hr0⟩ := h
  exact hg
theorem cellS48_0 {W : World} {g : Nat} {A0 : Option Addr} {c0 : Nat} {f0 : List Int} {f1 : Int} {f2 : Int} (h : W.heap[g]? = some (.cells #[.slice A0 f0.length c0, .int .i64 f1, .int .u64 f2] 48 (0, 0))) : W.cell? ⟨g, 0, none⟩ = some (.slice A0 f0.length c0) := (blk_cell h 0).trans rfl
theorem cellS48_1 {W : World} {g : Nat} {A0 : Option Addr} {c0 : Nat} {f0 : List Int} {f1 : Int} {f2 : Int} (h : W.heap[g]? = some (.cells #[.slice A0 f0.length c0, .int .i64 f1, .int .u64 f2] 48 (0, 0))) : W.cell? ⟨g, 1, none⟩ = some (.int .i64 f1) := (blk_cell h 1).trans rfl
theorem IsS48.set_1 {w0 W : World} {g : Nat} {f0 : List Int} {f1 : Int} {f2 : Int} (h : IsS48 w0 W g f0 f1 f2) (x : Int) : IsS48 w0 (W.setCell ⟨g, 1, none⟩ (.int .i64 x)) g f0 x f2 := by
  obtain ⟨A0, c0, hb, hg, hr0⟩ := h
  exact ⟨A0, c0, by simpa using blk_set hb 1 (.int .i64 x), hg, hr0⟩
theorem cellS48_2 {W : World} {g : Nat} {A0 : Option Addr} {c0 : Nat} {f0 : List Int} {f1 : Int} {f2 : Int} (h : W.heap[g]? = some (.cells #[.slice A0 f0.length c0, .int .i64 f1, .int .u64 f2] 48 (0, 0))) : W.cell? ⟨g, 2, none⟩ = some (.int .u64 f2) := (blk_cell h 2).trans rfl
theorem IsS48.set_2 {w0 W : World} {g : Nat} {f0 : List Int} {f1 : Int} {f2 : Int} (h : IsS48 w0 W g f0 f1 f2) (x : Int) : IsS48 w0 (W.setCell ⟨g, 2, none⟩ (.int .u64 x)) g f0 f1 x := by
  obtain ⟨A0, c0, hb, hg, hr0⟩ := h
  exact ⟨A0, c0, by simpa using blk_set hb 2 (.int .u64 x), hg, hr0⟩
def spec_l1Cur_next.f (s0_0 : List Int) (s0_1 : Int) (s0_2 : Int) : Option (Int × Int × Int) := if s0_1 < (s0_0.length : Int) then (if 0 ≤ s0_1 then (if (wrap64 (s0_1 + 1)) ≤ (s0_0.length : Int) then (some (wrap64 (rd s0_0 s0_1), wrap64 (s0_1 + 1), IntKind.u64.wrap ((IntKind.u64.wrap ((IntKind.u64.wrap (s0_2 * 6364136223846793005)) + (IntKind.u64.wrap (wrap64 (rd s0_0 s0_1))))) + 462197))) else (some (wrap64 (Go.bits .and .u64 ((IntKind.u64.wrap ((IntKind.u64.wrap ((IntKind.u64.wrap (s0_2 * 6364136223846793005)) + (IntKind.u64.wrap (wrap64 (rd s0_0 s0_1))))) + 462197)) / 1099511627776) 255), wrap64 (s0_1 + 1), IntKind.u64.wrap ((IntKind.u64.wrap ((IntKind.u64.wrap (s0_2 * 6364136223846793005)) + (IntKind.u64.wrap (wrap64 (rd s0_0 s0_1))))) + 462197)))) else (none)) else (if (wrap64 (s0_1 + 1)) ≤ (s0_0.length : Int) then (some (0, wrap64 (s0_1 + 1), IntKind.u64.wrap ((IntKind.u64.wrap ((IntKind.u64.wrap (s0_2 * 6364136223846793005)) + 0)) + 462197))) else (some (wrap64 (Go.bits .and .u64 ((IntKind.u64.wrap ((IntKind.u64.wrap ((IntKind.u64.wrap (s0_2 * 6364136223846793005)) + 0)) + 462197)) / 1099511627776) 255), wrap64 (s0_1 + 1), IntKind.u64.wrap ((IntKind.u64.wrap ((IntKind.u64.wrap (s0_2 * 6364136223846793005)) + 0)) + 462197))))
set_option maxHeartbeats 8000000 in
set_option maxRecDepth 100000 in
theorem spec_l1Cur_next.calls (g : Nat) (s0_0 : List Int) (s0_1 : Int) (s0_2 : Int) (r1 : Int) (r2 : Int) (r3 : Int) (w0 w : World) (hI : IsS48 w0 w g s0_0 s0_1 s0_2) (hB : Below w0.heap.size w0 w) (h : spec_l1Cur_next.f s0_0 s0_1 s0_2 = some (r1, r2, r3)) :
    Calls Tryd.prog 56 #[.pointer (some ⟨g, 0, none⟩)] w fun e w' => e = .returned (.int .i64 r1) ∧ IsS48 w0 w' g s0_0 r2 r3 ∧ Below w0.heap.size w0 w' ∧ KeepBut w w' g none := by
  have HI0 := Aside0.mk hI
  have HK := Aside0.mk (KeepBut.refl w g none)
  have HL := Aside0.mk hB.size
  clear hI
  have HW0 := Aside0.mk hB.size
  have HB := Aside0.mk hB
  clear hB
  have H : (if s0_1 < (s0_0.length : Int) then (if 0 ≤ s0_1 then (if (wrap64 (s0_1 + 1)) ≤ (s0_0.length : Int) then (some (wrap64 (rd s0_0 s0_1), wrap64 (s0_1 + 1), IntKind.u64.wrap ((IntKind.u64.wrap ((IntKind.u64.wrap (s0_2 * 6364136223846793005)) + (IntKind.u64.wrap (wrap64 (rd s0_0 s0_1))))) + 462197))) else (some (wrap64 (Go.bits .and .u64 ((IntKind.u64.wrap ((IntKind.u64.wrap ((IntKind.u64.wrap (s0_2 * 6364136223846793005)) + (IntKind.u64.wrap (wrap64 (rd s0_0 s0_1))))) + 462197)) / 1099511627776) 255), wrap64 (s0_1 + 1), IntKind.u64.wrap ((IntKind.u64.wrap ((IntKind.u64.wrap (s0_2 * 6364136223846793005)) + (IntKind.u64.wrap (wrap64 (rd s0_0 s0_1))))) + 462197)))) else (none)) else (if (wrap64 (s0_1 + 1)) ≤ (s0_0.length : Int) then (some (0, wrap64 (s0_1 + 1), IntKind.u64.wrap ((IntKind.u64.wrap ((IntKind.u64.wrap (s0_2 * 6364136223846793005)) + 0)) + 462197))) else (some (wrap64 (Go.bits .and .u64 ((IntKind.u64.wrap ((IntKind.u64.wrap ((IntKind.u64.wrap (s0_2 * 6364136223846793005)) + 0)) + 462197)) / 1099511627776) 255), wrap64 (s0_1 + 1), IntKind.u64.wrap ((IntKind.u64.wrap ((IntKind.u64.wrap (s0_2 * 6364136223846793005)) + 0)) + 462197))))) = some (r1, r2, r3) := h
  clear h
  by_cases c2 : s0_1 < (s0_0.length : Int)
  · rw [if_pos c2] at H
    have c2b0 : decide (s0_1 < (s0_0.length : Int)) = true := decide_eq_true c2
    clear c2
    by_cases c3 : 0 ≤ s0_1
    · rw [if_pos c3] at H
      have c3b0 : decide (0 ≤ s0_1) = true := decide_eq_true c3
      clear c3
      by_cases c4 : (wrap64 (s0_1 + 1)) ≤ (s0_0.length : Int)
      · rw [if_pos c4] at H
        have c4b0 : decide ((wrap64 (s0_1 + 1)) ≤ (s0_0.length : Int)) = true := decide_eq_true c4
        clear c4
        simp only [Option.some.injEq, Prod.mk.injEq] at H
        obtain ⟨rfl, rfl, rfl⟩ := H
        obtain ⟨ASz5_0, cSz5_0, HGz5, hgz5, HSz5_0⟩ := HI0.out
        have hcz5_0 := cellS48_0 HGz5
        have hcz5_1 := cellS48_1 HGz5
        have hcz5_2 := cellS48_2 HGz5
        have hfz5_1 := blk_frozen HGz5 1
        have hfz5_2 := blk_frozen HGz5 2
        clear HGz5 hgz5
        have p101 : 0 ≤ (s0_1 : Int) := of_decide_eq_true (by first | (with_reducible assumption) | assumption)
        have q101 : s0_1 < (s0_0.length : Int) := of_decide_eq_true (by first | (with_reducible assumption) | assumption)
        obtain ⟨ad101, e101, hx101_0⟩ := Kd.at_int HSz5_0 s0_1 p101 q101
        cases e101
        replace hx101_0 := pw_cell_below HB.out hx101_0
        replace p101 := eq_true p101
        replace q101 := eq_true q101
        go_enter Tryd.func56, Tryd.ntmps56
        go_wp2
        repeat (go_quiet (fail); try go_wp2)
        go_ret
        (try simp only [Int.add_zero])
        exact ⟨by first | rfl | (simp [errW_none, errW_some] <;> rfl) | (simp [*, errW_none, errW_some] <;> rfl), by repeat (first | (with_reducible first | exact HI0.out | apply IsS48.alloc | apply IsS48.drewN | apply IsS48.drew | apply IsS48.set_1 | apply IsS48.set_2) | exact HI0.out), by repeat (first | (with_reducible first | exact HB.out | apply below_alloc | apply pw_below_drewN | apply below_drew1 | refine below_set ?_ (IsS48.ge HI0.out)) | exact HB.out), by repeat (first | (with_reducible first | exact HK.out | apply KeepBut.set_ | apply keep_drewN | apply keep_drew | apply keep_alloc) | exact HK.out)⟩
      · rw [if_neg c4] at H
        have c4b0 : decide ((wrap64 (s0_1 + 1)) ≤ (s0_0.length : Int)) = false := decide_eq_false c4
        clear c4
        simp only [Option.some.injEq, Prod.mk.injEq] at H
        obtain ⟨rfl, rfl, rfl⟩ := H
        obtain ⟨ASz6_0, cSz6_0, HGz6, hgz6, HSz6_0⟩ := HI0.out
        have hcz6_0 := cellS48_0 HGz6
        have hcz6_1 := cellS48_1 HGz6
        have hcz6_2 := cellS48_2 HGz6
        have hfz6_1 := blk_frozen HGz6 1
        have hfz6_2 := blk_frozen HGz6 2
        clear HGz6 hgz6
        have p101 : 0 ≤ (s0_1 : Int) := of_decide_eq_true (by first | (with_reducible assumption) | assumption)
        have q101 : s0_1 < (s0_0.length : Int) := of_decide_eq_true (by first | (with_reducible assumption) | assumption)
        obtain ⟨ad101, e101, hx101_0⟩ := Kd.at_int HSz6_0 s0_1 p101 q101
        cases e101
        replace hx101_0 := pw_cell_below HB.out hx101_0
        replace p101 := eq_true p101
        replace q101 := eq_true q101
        go_enter Tryd.func56, Tryd.ntmps56
        go_wp2
        repeat (go_quiet (fail); try go_wp2)
        go_ret
        (try simp only [Int.add_zero])
        exact ⟨by first | rfl | (simp [errW_none, errW_some] <;> rfl) | (simp [*, errW_none, errW_some] <;> rfl), by repeat (first | (with_reducible first | exact HI0.out | apply IsS48.alloc | apply IsS48.drewN | apply IsS48.drew | apply IsS48.set_1 | apply IsS48.set_2) | exact HI0.out), by repeat (first | (with_reducible first | exact HB.out | apply below_alloc | apply pw_below_drewN | apply below_drew1 | refine below_set ?_ (IsS48.ge HI0.out)) | exact HB.out), by repeat (first | (with_reducible first | exact HK.out | apply KeepBut.set_ | apply keep_drewN | apply keep_drew | apply keep_alloc) | exact HK.out)⟩
    · rw [if_neg c3] at H
      exact absurd H (by simp)
  · rw [if_neg c2] at H
    have c2b0 : decide (s0_1 < (s0_0.length : Int)) = false := decide_eq_false c2
    clear c2
    by_cases c7 : (wrap64 (s0_1 + 1)) ≤ (s0_0.length : Int)
    · rw [if_pos c7] at H
      have c7b0 : decide ((wrap64 (s0_1 + 1)) ≤ (s0_0.length : Int)) = true := decide_eq_true c7
      clear c7
      simp only [Option.some.injEq, Prod.mk.injEq] at H
      obtain ⟨rfl, rfl, rfl⟩ := H
      obtain ⟨ASz8_0, cSz8_0, HGz8, hgz8, HSz8_0⟩ := HI0.out
      have hcz8_0 := cellS48_0 HGz8
      have hcz8_1 := cellS48_1 HGz8
      have hcz8_2 := cellS48_2 HGz8
      have hfz8_1 := blk_frozen HGz8 1
      have hfz8_2 := blk_frozen HGz8 2
      clear HGz8 hgz8
      go_enter Tryd.func56, Tryd.ntmps56
      go_wp2
      repeat (go_quiet (fail); try go_wp2)
      go_ret
      (try simp only [Int.add_zero])
      exact ⟨by first | rfl | (simp [errW_none, errW_some] <;> rfl) | (simp [*, errW_none, errW_some] <;> rfl), by repeat (first | (with_reducible first | exact HI0.out | apply IsS48.alloc | apply IsS48.drewN | apply IsS48.drew | apply IsS48.set_1 | apply IsS48.set_2) | exact HI0.out), by repeat (first | (with_reducible first | exact HB.out | apply below_alloc | apply pw_below_drewN | apply below_drew1 | refine below_set ?_ (IsS48.ge HI0.out)) | exact HB.out), by repeat (first | (with_reducible first | exact HK.out | apply KeepBut.set_ | apply keep_drewN | apply keep_drew | apply keep_alloc) | exact HK.out)⟩
    · rw [if_neg c7] at H
      have c7b0 : decide ((wrap64 (s0_1 + 1)) ≤ (s0_0.length : Int)) = false := decide_eq_false c7
      clear c7
      simp only [Option.some.injEq, Prod.mk.injEq] at H
      obtain ⟨rfl, rfl, rfl⟩ := H
      obtain ⟨ASz9_0, cSz9_0, HGz9, hgz9, HSz9_0⟩ := HI0.out
      have hcz9_0 := cellS48_0 HGz9
      have hcz9_1 := cellS48_1 HGz9
      have hcz9_2 := cellS48_2 HGz9
      have hfz9_1 := blk_frozen HGz9 1
      have hfz9_2 := blk_frozen HGz9 2
      clear HGz9 hgz9
      go_enter Tryd.func56, Tryd.ntmps56
      go_wp2
      repeat (go_quiet (fail); try go_wp2)
      go_ret
      (try simp only [Int.add_zero])
      exact ⟨by first | rfl | (simp [errW_none, errW_some] <;> rfl) | (simp [*, errW_none, errW_some] <;> rfl), by repeat (first | (with_reducible first | exact HI0.out | apply IsS48.alloc | apply IsS48.drewN | apply IsS48.drew | apply IsS48.set_1 | apply IsS48.set_2) | exact HI0.out), by repeat (first | (with_reducible first | exact HB.out | apply below_alloc | apply pw_below_drewN | apply below_drew1 | refine below_set ?_ (IsS48.ge HI0.out)) | exact HB.out), by repeat (first | (with_reducible first | exact HK.out | apply KeepBut.set_ | apply keep_drewN | apply keep_drew | apply keep_alloc) | exact HK.out)⟩
def spec_l1Cur_pick.f (s0_0 : List Int) (s0_1 : Int) (s0_2 : Int) (a1 : Int) : Option (Int × Int × Int) := if a1 ≤ 1 then (some (0, s0_1, s0_2)) else ((spec_l1Cur_next.f s0_0 s0_1 s0_2).bind fun bt102 => (if a1 > 200 then ((spec_l1Cur_next.f s0_0 bt102.2.1 bt102.2.2).bind fun bt105 => (if a1 = 0 then (none) else (some (Int.tmod (wrap64 ((wrap64 (bt102.1 * 256)) + bt105.1)) a1, bt105.2.1, bt105.2.2)))) else (if a1 = 0 then (none) else (some (Int.tmod bt102.1 a1, bt102.2.1, bt102.2.2)))))
set_option maxHeartbeats 8000000 in
set_option maxRecDepth 100000 in
theorem spec_l1Cur_pick.calls (g : Nat) (s0_0 : List Int) (s0_1 : Int) (s0_2 : Int) (a1 : Int) (r1 : Int) (r2 : Int) (r3 : Int) (w0 w : World) (hI : IsS48 w0 w g s0_0 s0_1 s0_2) (hB : Below w0.heap.size w0 w) (h : spec_l1Cur_pick.f s0_0 s0_1 s0_2 a1 = some (r1, r2, r3)) :
    Calls Tryd.prog 37 #[.pointer (some ⟨g, 0, none⟩), .int .i64 a1] w fun e w' => e = .returned (.int .i64 r1) ∧ IsS48 w0 w' g s0_0 r2 r3 ∧ Below w0.heap.size w0 w' ∧ KeepBut w w' g none := by
  have HI0 := Aside0.mk hI
  have HK := Aside0.mk (KeepBut.refl w g none)
  have HL := Aside0.mk hB.size
  clear hI
  have HW0 := Aside0.mk hB.size
  have HB := Aside0.mk hB
  clear hB
  have H : (if a1 ≤ 1 then (some (0, s0_1, s0_2)) else ((spec_l1Cur_next.f s0_0 s0_1 s0_2).bind fun bt102 => (if a1 > 200 then ((spec_l1Cur_next.f s0_0 bt102.2.1 bt102.2.2).bind fun bt105 => (if a1 = 0 then (none) else (some (Int.tmod (wrap64 ((wrap64 (bt102.1 * 256)) + bt105.1)) a1, bt105.2.1, bt105.2.2)))) else (if a1 = 0 then (none) else (some (Int.tmod bt102.1 a1, bt102.2.1, bt102.2.2)))))) = some (r1, r2, r3) := h
  clear h
  by_cases c3 : a1 ≤ 1
  · rw [if_pos c3] at H
    have c3b0 : decide (a1 ≤ 1) = true := decide_eq_true c3
    clear c3
    simp only [Option.some.injEq, Prod.mk.injEq] at H
    obtain ⟨rfl, rfl, rfl⟩ := H
    go_enter Tryd.func37, Tryd.ntmps37
    go_wp2
    go_ret
    (try simp only [Int.add_zero])
    exact ⟨by first | rfl | (simp [errW_none, errW_some] <;> rfl) | (simp [*, errW_none, errW_some] <;> rfl), by repeat (first | (with_reducible first | exact HI0.out | apply IsS48.alloc | apply IsS48.drewN | apply IsS48.drew | apply IsS48.set_1 | apply IsS48.set_2) | exact HI0.out), by repeat (first | (with_reducible first | exact HB.out | apply below_alloc | apply pw_below_drewN | apply below_drew1 | refine below_set ?_ (IsS48.ge HI0.out)) | exact HB.out), by repeat (first | (with_reducible first | exact HK.out | apply KeepBut.set_ | apply keep_drewN | apply keep_drew | apply keep_alloc) | exact HK.out)⟩
  · rw [if_neg c3] at H
    have c3b0 : decide (a1 ≤ 1) = false := decide_eq_false c3
    clear c3
    replace H := Option.bind_eq_some_iff.mp H
    obtain ⟨⟨t102, t103, t104⟩, A40, H⟩ := H
    replace H : (if a1 > 200 then ((spec_l1Cur_next.f s0_0 t103 t104).bind fun bt105 => (if a1 = 0 then (none) else (some (Int.tmod (wrap64 ((wrap64 (t102 * 256)) + bt105.1)) a1, bt105.2.1, bt105.2.2)))) else (if a1 = 0 then (none) else (some (Int.tmod t102 a1, t103, t104)))) = some (r1, r2, r3) := H
    have A4 := Aside0.mk A40
    clear A40
    by_cases c5 : a1 > 200
    · rw [if_pos c5] at H
      have c5b0 : decide (200 < a1) = true := decide_eq_true c5
      clear c5
      replace H := Option.bind_eq_some_iff.mp H
      obtain ⟨⟨t105, t106, t107⟩, A60, H⟩ := H
      replace H : (if a1 = 0 then (none) else (some (Int.tmod (wrap64 ((wrap64 (t102 * 256)) + t105)) a1, t106, t107))) = some (r1, r2, r3) := H
      have A6 := Aside0.mk A60
      clear A60
      by_cases c7 : a1 = 0
      · rw [if_pos c7] at H
        exact absurd H (by simp)
      · rw [if_neg c7] at H
        have c7b0 : (a1 == 0) = false := beq_eq_false_iff_ne.mpr c7
        have c7b1 : (a1 != 0) = true := bne_iff_ne.mpr c7
        simp only [Option.some.injEq, Prod.mk.injEq] at H
        obtain ⟨rfl, rfl, rfl⟩ := H
        go_enter Tryd.func37, Tryd.ntmps37
        go_wp2_with (first | ((with_reducible refine gate_callee (f := 56) rfl ?_); refine goesL_ (some 9) rfl rfl Tryd.func56 (by kernel_rfl) rfl #[.pointer (some ⟨g, 0, none⟩)] rfl (by (try simp only [List.map_toArray, List.map_cons, List.map_nil]); first | done | rfl | (simp only [List.length_drop, List.length_take]; rfl)) ?_; (with_reducible refine (spec_l1Cur_next.calls g s0_0 s0_1 s0_2 t102 t103 t104 w0 _ ?side1 ?side2 A4.out).mono ?_); (case side1 => repeat (first | (with_reducible first | exact HI0.out | apply IsS48.alloc | apply IsS48.drewN | apply IsS48.drew | apply IsS48.set_1 | apply IsS48.set_2) | exact HI0.out)); (case side2 => repeat (first | (with_reducible first | exact HB.out | apply below_alloc | apply pw_below_drewN | apply below_drew1 | refine below_set ?_ (IsS48.ge HI0.out)) | exact HB.out)); rintro e w8 ⟨rfl, hi, hb, hk⟩; refine ⟨_, rfl, ?_⟩; have n0_ := Aside0.mk (KeepBut.trans (by repeat (first | (with_reducible first | exact HK.out | apply KeepBut.set_ | apply keep_drewN | apply keep_drew | apply keep_alloc) | exact HK.out)) hk (.inl rfl)); have n1_ := Aside0.mk (hb); have n2_ := Aside0.mk (hi); clear HK; clear HB; clear HI0; have HK := n0_; have HB := n1_; have HI0 := n2_; clear n0_ n1_ n2_; (try clear hb); (try clear hb2); (try clear hk); (try clear hi)) | ((with_reducible refine gate_callee (f := 56) rfl ?_); refine goesL_ (some 15) rfl rfl Tryd.func56 (by kernel_rfl) rfl #[.pointer (some ⟨g, 0, none⟩)] rfl (by (try simp only [List.map_toArray, List.map_cons, List.map_nil]); first | done | rfl | (simp only [List.length_drop, List.length_take]; rfl)) ?_; (with_reducible refine (spec_l1Cur_next.calls g s0_0 t103 t104 t105 t106 t107 w0 _ ?side1 ?side2 A6.out).mono ?_); (case side1 => repeat (first | (with_reducible first | exact HI0.out | apply IsS48.alloc | apply IsS48.drewN | apply IsS48.drew | apply IsS48.set_1 | apply IsS48.set_2) | exact HI0.out)); (case side2 => repeat (first | (with_reducible first | exact HB.out | apply below_alloc | apply pw_below_drewN | apply below_drew1 | refine below_set ?_ (IsS48.ge HI0.out)) | exact HB.out)); rintro e w9 ⟨rfl, hi, hb, hk⟩; refine ⟨_, rfl, ?_⟩; have n0_ := Aside0.mk (KeepBut.trans (by repeat (first | (with_reducible first | exact HK.out | apply KeepBut.set_ | apply keep_drewN | apply keep_drew | apply keep_alloc) | exact HK.out)) hk (.inl rfl)); have n1_ := Aside0.mk (hb); have n2_ := Aside0.mk (hi); clear HK; clear HB; clear HI0; have HK := n0_; have HB := n1_; have HI0 := n2_; clear n0_ n1_ n2_; (try clear hb); (try clear hb2); (try clear hk); (try clear hi)))
        go_ret
        (try simp only [Int.add_zero])
        exact ⟨by first | rfl | (simp [errW_none, errW_some] <;> rfl) | (simp [*, errW_none, errW_some] <;> rfl), by repeat (first | (with_reducible first | exact HI0.out | apply IsS48.alloc | apply IsS48.drewN | apply IsS48.drew | apply IsS48.set_1 | apply IsS48.set_2) | exact HI0.out), by repeat (first | (with_reducible first | exact HB.out | apply below_alloc | apply pw_below_drewN | apply below_drew1 | refine below_set ?_ (IsS48.ge HI0.out)) | exact HB.out), by repeat (first | (with_reducible first | exact HK.out | apply KeepBut.set_ | apply keep_drewN | apply keep_drew | apply keep_alloc) | exact HK.out)⟩
    · rw [if_neg c5] at H
      have c5b0 : decide (200 < a1) = false := decide_eq_false c5
      clear c5
      by_cases c10 : a1 = 0
      · rw [if_pos c10] at H
        exact absurd H (by simp)
      · rw [if_neg c10] at H
        have c10b0 : (a1 == 0) = false := beq_eq_false_iff_ne.mpr c10
        have c10b1 : (a1 != 0) = true := bne_iff_ne.mpr c10
        simp only [Option.some.injEq, Prod.mk.injEq] at H
        obtain ⟨rfl, rfl, rfl⟩ := H
        go_enter Tryd.func37, Tryd.ntmps37
        go_wp2_with (first | ((with_reducible refine gate_callee (f := 56) rfl ?_); refine goesL_ (some 9) rfl rfl Tryd.func56 (by kernel_rfl) rfl #[.pointer (some ⟨g, 0, none⟩)] rfl (by (try simp only [List.map_toArray, List.map_cons, List.map_nil]); first | done | rfl | (simp only [List.length_drop, List.length_take]; rfl)) ?_; (with_reducible refine (spec_l1Cur_next.calls g s0_0 s0_1 s0_2 t102 t103 t104 w0 _ ?side1 ?side2 A4.out).mono ?_); (case side1 => repeat (first | (with_reducible first | exact HI0.out | apply IsS48.alloc | apply IsS48.drewN | apply IsS48.drew | apply IsS48.set_1 | apply IsS48.set_2) | exact HI0.out)); (case side2 => repeat (first | (with_reducible first | exact HB.out | apply below_alloc | apply pw_below_drewN | apply below_drew1 | refine below_set ?_ (IsS48.ge HI0.out)) | exact HB.out)); rintro e w11 ⟨rfl, hi, hb, hk⟩; refine ⟨_, rfl, ?_⟩; have n0_ := Aside0.mk (KeepBut.trans (by repeat (first | (with_reducible first | exact HK.out | apply KeepBut.set_ | apply keep_drewN | apply keep_drew | apply keep_alloc) | exact HK.out)) hk (.inl rfl)); have n1_ := Aside0.mk (hb); have n2_ := Aside0.mk (hi); clear HK; clear HB; clear HI0; have HK := n0_; have HB := n1_; have HI0 := n2_; clear n0_ n1_ n2_; (try clear hb); (try clear hb2); (try clear hk); (try clear hi)))
        go_ret
        (try simp only [Int.add_zero])
        exact ⟨by first | rfl | (simp [errW_none, errW_some] <;> rfl) | (simp [*, errW_none, errW_some] <;> rfl), by repeat (first | (with_reducible first | exact HI0.out | apply IsS48.alloc | apply IsS48.drewN | apply IsS48.drew | apply IsS48.set_1 | apply IsS48.set_2) | exact HI0.out), by repeat (first | (with_reducible first | exact HB.out | apply below_alloc | apply pw_below_drewN | apply below_drew1 | refine below_set ?_ (IsS48.ge HI0.out)) | exact HB.out), by repeat (first | (with_reducible first | exact HK.out | apply KeepBut.set_ | apply keep_drewN | apply keep_drew | apply keep_alloc) | exact HK.out)⟩
def spec_l1Cur_of.f (s0_0 : List Int) (s0_1 : Int) (s0_2 : Int) (l1 : List ByteArray) : Option (ByteArray × Int × Int) := (spec_l1Cur_pick.f s0_0 s0_1 s0_2 (l1.length : Int)).bind fun bt108 => (if 0 ≤ bt108.1 then (if bt108.1 < (l1.length : Int) then (some (rdOf ByteArray.empty l1 bt108.1, bt108.2.1, bt108.2.2)) else (none)) else (none))
set_option maxHeartbeats 8000000 in
set_option maxRecDepth 100000 in
theorem spec_l1Cur_of.calls (g : Nat) (s0_0 : List Int) (s0_1 : Int) (s0_2 : Int) (A1 : Option Addr) (c1 : Nat) (l1 : List ByteArray) (r1 : ByteArray) (r2 : Int) (r3 : Int) (w0 w : World) (hI : IsS48 w0 w g s0_0 s0_1 s0_2) (hB : Below w0.heap.size w0 w) (hr1 : Kd.C Kd.string w A1 l1.length l1) (hc1 : l1.length ≤ c1) (hf1 : ∀ ad, A1 = some ad → 0 < l1.length → ad.block ≠ g) (h : spec_l1Cur_of.f s0_0 s0_1 s0_2 l1 = some (r1, r2, r3)) :
    Calls Tryd.prog 35 #[.pointer (some ⟨g, 0, none⟩), .slice A1 l1.length c1] w fun e w' => e = .returned (.string r1) ∧ IsS48 w0 w' g s0_0 r2 r3 ∧ Below w0.heap.size w0 w' ∧ KeepBut w w' g none := by
  have HR1 := Aside0.mk hr1
  have HC1 := Aside0.mk hc1
  clear hr1 hc1
  have HI0 := Aside0.mk hI
  have HK := Aside0.mk (KeepBut.refl w g none)
  have HL := Aside0.mk hB.size
  clear hI
  have HW0 := Aside0.mk hB.size
  have HB := Aside0.mk hB
  clear hB
  have H : ((spec_l1Cur_pick.f s0_0 s0_1 s0_2 (l1.length : Int)).bind fun bt108 => (if 0 ≤ bt108.1 then (if bt108.1 < (l1.length : Int) then (some (rdOf ByteArray.empty l1 bt108.1, bt108.2.1, bt108.2.2)) else (none)) else (none))) = some (r1, r2, r3) := h
  clear h
  replace H := Option.bind_eq_some_iff.mp H
  obtain ⟨⟨t108, t109, t110⟩, A30, H⟩ := H
  replace H : (if 0 ≤ t108 then (if t108 < (l1.length : Int) then (some (rdOf ByteArray.empty l1 t108, t109, t110)) else (none)) else (none)) = some (r1, r2, r3) := H
  have A3 := Aside0.mk A30
  clear A30
  by_cases c4 : 0 ≤ t108
  · rw [if_pos c4] at H
    have c4b0 : decide (0 ≤ t108) = true := decide_eq_true c4
    clear c4
    by_cases c5 : t108 < (l1.length : Int)
    · rw [if_pos c5] at H
      have c5b0 : decide (t108 < (l1.length : Int)) = true := decide_eq_true c5
      clear c5
      simp only [Option.some.injEq, Prod.mk.injEq] at H
      obtain ⟨rfl, rfl, rfl⟩ := H
      go_enter Tryd.func35, Tryd.ntmps35
      go_wp2_with (first | ((with_reducible refine gate_callee (f := 37) rfl ?_); refine goesL_ (some 9) rfl rfl Tryd.func37 (by kernel_rfl) rfl #[.pointer (some ⟨g, 0, none⟩), .int .i64 (l1.length : Int)] rfl (by (try simp only [List.map_toArray, List.map_cons, List.map_nil]); first | done | rfl | (simp only [List.length_drop, List.length_take]; rfl)) ?_; (with_reducible refine (spec_l1Cur_pick.calls g s0_0 s0_1 s0_2 (l1.length : Int) t108 t109 t110 w0 _ ?side1 ?side2 A3.out).mono ?_); (case side1 => repeat (first | (with_reducible first | exact HI0.out | apply IsS48.alloc | apply IsS48.drewN | apply IsS48.drew | apply IsS48.set_1 | apply IsS48.set_2) | exact HI0.out)); (case side2 => repeat (first | (with_reducible first | exact HB.out | apply below_alloc | apply pw_below_drewN | apply below_drew1 | refine below_set ?_ (IsS48.ge HI0.out)) | exact HB.out)); rintro e w6 ⟨rfl, hi, hb, hk⟩; refine ⟨_, rfl, ?_⟩; have n0_ := Aside0.mk (KeepBut.trans (by repeat (first | (with_reducible first | exact HK.out | apply KeepBut.set_ | apply keep_drewN | apply keep_drew | apply keep_alloc) | exact HK.out)) hk (.inl rfl)); have n1_ := Aside0.mk (hb); have n2_ := Aside0.mk (hi); clear HK; clear HB; clear HI0; have HK := n0_; have HB := n1_; have HI0 := n2_; clear n0_ n1_ n2_; (try clear hb); (try clear hb2); (try clear hk); (try clear hi); have p111 : 0 ≤ (t108 : Int) := of_decide_eq_true (by first | (with_reducible assumption) | assumption); have q111 : t108 < (l1.length : Int) := of_decide_eq_true (by first | (with_reducible assumption) | assumption); obtain ⟨ad111, e111, hx111_0⟩ := Kd.at_string HR1.out t108 p111 q111; cases e111; replace hx111_0 := keep_cell HK.out hx111_0 (by first | (rw [add_block]; exact hf1 _ rfl (by omega)) | exact hf1 _ rfl (by omega) | exact hf1 ad111 rfl (by omega)); replace p111 := eq_true p111; replace q111 := eq_true q111))
      go_ret
      (try simp only [Int.add_zero])
      exact ⟨by first | rfl | (simp [errW_none, errW_some] <;> rfl) | (simp [*, errW_none, errW_some] <;> rfl), by repeat (first | (with_reducible first | exact HI0.out | apply IsS48.alloc | apply IsS48.drewN | apply IsS48.drew | apply IsS48.set_1 | apply IsS48.set_2) | exact HI0.out), by repeat (first | (with_reducible first | exact HB.out | apply below_alloc | apply pw_below_drewN | apply below_drew1 | refine below_set ?_ (IsS48.ge HI0.out)) | exact HB.out), by repeat (first | (with_reducible first | exact HK.out | apply KeepBut.set_ | apply keep_drewN | apply keep_drew | apply keep_alloc) | exact HK.out)⟩
    · rw [if_neg c5] at H
      exact absurd H (by simp)
  · rw [if_neg c4] at H
    exact absurd H (by simp)
def spec_l1Cur_any1.f (s0_0 : List Int) (s0_1 : Int) (s0_2 : Int) : Option (ByteArray × Int × Int) := (spec_l1Cur_of.f s0_0 s0_1 s0_2 (([(⟨#[]⟩ : ByteArray), (⟨#[97]⟩ : ByteArray), (⟨#[97, 44, 98]⟩ : ByteArray), (⟨#[115, 111, 109, 101, 32, 119, 111, 114, 100, 115]⟩ : ByteArray), (⟨#[120, 35, 121]⟩ : ByteArray), (⟨#[45, 49, 50]⟩ : ByteArray), (⟨#[0, 255]⟩ : ByteArray), (⟨#[44, 44]⟩ : ByteArray), (⟨#[48]⟩ : ByteArray)] : List ByteArray))).bind fun bt115 => (some (bt115.1, bt115.2.1, bt115.2.2))
set_option maxHeartbeats 8000000 in
set_option maxRecDepth 100000 in
theorem spec_l1Cur_any1.calls (g : Nat) (s0_0 : List Int) (s0_1 : Int) (s0_2 : Int) (r1 : ByteArray) (r2 : Int) (r3 : Int) (w0 w : World) (hI : IsS48 w0 w g s0_0 s0_1 s0_2) (hB : Below w0.heap.size w0 w) (h : spec_l1Cur_any1.f s0_0 s0_1 s0_2 = some (r1, r2, r3)) :
    Calls Tryd.prog 34 #[.pointer (some ⟨g, 0, none⟩)] w fun e w' => e = .returned (.string r1) ∧ IsS48 w0 w' g s0_0 r2 r3 ∧ Below w0.heap.size w0 w' ∧ KeepBut w w' g none := by
  have HI0 := Aside0.mk hI
  have HK := Aside0.mk (KeepBut.refl w g none)
  have HL := Aside0.mk hB.size
  clear hI
  have HW0 := Aside0.mk hB.size
  have HB := Aside0.mk hB
  clear hB
  have H : ((spec_l1Cur_of.f s0_0 s0_1 s0_2 (([(⟨#[]⟩ : ByteArray), (⟨#[97]⟩ : ByteArray), (⟨#[97, 44, 98]⟩ : ByteArray), (⟨#[115, 111, 109, 101, 32, 119, 111, 114, 100, 115]⟩ : ByteArray), (⟨#[120, 35, 121]⟩ : ByteArray), (⟨#[45, 49, 50]⟩ : ByteArray), (⟨#[0, 255]⟩ : ByteArray), (⟨#[44, 44]⟩ : ByteArray), (⟨#[48]⟩ : ByteArray)] : List ByteArray))).bind fun bt115 => (some (bt115.1, bt115.2.1, bt115.2.2))) = some (r1, r2, r3) := h
  clear h
  obtain ⟨y112, hy112⟩ : ∃ y_ : List ByteArray, y_ = (([(⟨#[]⟩ : ByteArray), (⟨#[97]⟩ : ByteArray), (⟨#[97, 44, 98]⟩ : ByteArray), (⟨#[115, 111, 109, 101, 32, 119, 111, 114, 100, 115]⟩ : ByteArray), (⟨#[120, 35, 121]⟩ : ByteArray), (⟨#[45, 49, 50]⟩ : ByteArray), (⟨#[0, 255]⟩ : ByteArray), (⟨#[44, 44]⟩ : ByteArray), (⟨#[48]⟩ : ByteArray)] : List ByteArray)) := ⟨_, rfl⟩
  replace H : ((spec_l1Cur_of.f s0_0 s0_1 s0_2 y112).bind fun bt115 => (some (bt115.1, bt115.2.1, bt115.2.2))) = some (r1, r2, r3) := by first | (rw [hy112]; with_reducible exact H) | (have H2_ := (Option.bind_some _ _).symm.trans H; rw [hy112]; with_reducible exact H2_) | (have H2_ := (Option.bind_some _ _).symm.trans H; with_reducible exact H2_) | with_reducible exact H | (rw [hy112]; exact H) | exact H
  have Ny112 := Aside0.mk hy112
  clear hy112
  replace H := Option.bind_eq_some_iff.mp H
  obtain ⟨⟨t115, t116, t117⟩, A20, H⟩ := H
  replace H : (some (t115, t116, t117)) = some (r1, r2, r3) := H
  have A2 := Aside0.mk A20
  clear A20
  simp only [Option.some.injEq, Prod.mk.injEq] at H
  obtain ⟨rfl, rfl, rfl⟩ := H
  go_enter Tryd.func34, Tryd.ntmps34
  go_wp2_with (first | ((with_reducible refine gate_dst (N := 4) rfl ?_); refine Kd.R_lit Kd.string _ 9 ?hg (N := 4) ?hd (xs := ([(⟨#[]⟩ : ByteArray), (⟨#[97]⟩ : ByteArray), (⟨#[97, 44, 98]⟩ : ByteArray), (⟨#[115, 111, 109, 101, 32, 119, 111, 114, 100, 115]⟩ : ByteArray), (⟨#[120, 35, 121]⟩ : ByteArray), (⟨#[45, 49, 50]⟩ : ByteArray), (⟨#[0, 255]⟩ : ByteArray), (⟨#[44, 44]⟩ : ByteArray), (⟨#[48]⟩ : ByteArray)] : List ByteArray)) (inner := [.string (⟨#[]⟩ : ByteArray), .string (⟨#[97]⟩ : ByteArray), .string (⟨#[97, 44, 98]⟩ : ByteArray), .string (⟨#[115, 111, 109, 101, 32, 119, 111, 114, 100, 115]⟩ : ByteArray), .string (⟨#[120, 35, 121]⟩ : ByteArray), .string (⟨#[45, 49, 50]⟩ : ByteArray), .string (⟨#[0, 255]⟩ : ByteArray), .string (⟨#[44, 44]⟩ : ByteArray), .string (⟨#[48]⟩ : ByteArray)]) (ok := fun _ => True) (okp := fun _ => True) ?hr ?hp (fun _ hk => hk) trivial (Below.refl _ _) (Nat.le_refl _) (by simp) ?_; (case hd => rfl); (case hg => rfl); (case hr => first | (go_simp; done) | (go_simp; rfl)); (case hp => exact (Reps.one (show Kd.M Kd.string _ _ _ (⟨#[]⟩ : ByteArray) [.string (⟨#[]⟩ : ByteArray)] from rfl) (Reps.one (show Kd.M Kd.string _ _ _ (⟨#[97]⟩ : ByteArray) [.string (⟨#[97]⟩ : ByteArray)] from rfl) (Reps.one (show Kd.M Kd.string _ _ _ (⟨#[97, 44, 98]⟩ : ByteArray) [.string (⟨#[97, 44, 98]⟩ : ByteArray)] from rfl) (Reps.one (show Kd.M Kd.string _ _ _ (⟨#[115, 111, 109, 101, 32, 119, 111, 114, 100, 115]⟩ : ByteArray) [.string (⟨#[115, 111, 109, 101, 32, 119, 111, 114, 100, 115]⟩ : ByteArray)] from rfl) (Reps.one (show Kd.M Kd.string _ _ _ (⟨#[120, 35, 121]⟩ : ByteArray) [.string (⟨#[120, 35, 121]⟩ : ByteArray)] from rfl) (Reps.one (show Kd.M Kd.string _ _ _ (⟨#[45, 49, 50]⟩ : ByteArray) [.string (⟨#[45, 49, 50]⟩ : ByteArray)] from rfl) (Reps.one (show Kd.M Kd.string _ _ _ (⟨#[0, 255]⟩ : ByteArray) [.string (⟨#[0, 255]⟩ : ByteArray)] from rfl) (Reps.one (show Kd.M Kd.string _ _ _ (⟨#[44, 44]⟩ : ByteArray) [.string (⟨#[44, 44]⟩ : ByteArray)] from rfl) (Reps.one (show Kd.M Kd.string _ _ _ (⟨#[48]⟩ : ByteArray) [.string (⟨#[48]⟩ : ByteArray)] from rfl) (Reps.none _ _))))))))))); intro v113 w3 ho4 hb hg_ hnew_; clear hg_ hnew_; (first | rw [← Ny112.out] at ho4 | (simp only [Int.reduceToNat] at ho4; rw [← Ny112.out] at ho4)); have n0_ := Aside0.mk (Kd.R_lower ho4 (keep_size (w := w) (g := g) (row := none) (by repeat (first | (with_reducible first | exact HK.out | apply KeepBut.set_ | apply keep_drewN | apply keep_drew | apply keep_alloc) | exact HK.out)))); have n1_ := Aside0.mk (IsS48.below (by repeat (first | (with_reducible first | exact HI0.out | apply IsS48.alloc | apply IsS48.drewN | apply IsS48.drew | apply IsS48.set_1 | apply IsS48.set_2) | exact HI0.out)) hb); have n2_ := Aside0.mk (KeepBut.trans (by repeat (first | (with_reducible first | exact HK.out | apply KeepBut.set_ | apply keep_drewN | apply keep_drew | apply keep_alloc) | exact HK.out)) (KeepBut.of_below hb g none) (.inl rfl)); have n3_ := Aside0.mk (below_step (by repeat (first | (with_reducible first | exact HB.out | apply below_alloc | apply pw_below_drewN | apply below_drew1 | refine below_set ?_ (IsS48.ge HI0.out)) | exact HB.out)) hb); clear HI0; clear HK; clear HB; have HO114 := n0_; have HI0 := n1_; have HK := n2_; have HB := n3_; clear n0_ n1_ n2_ n3_; clear hb ho4; obtain ⟨Ao5, co5, eo5⟩ := Kd.R_slice HO114.out; subst eo5) | ((with_reducible refine gate_callee (f := 35) rfl ?_); refine goesL_ (some 5) rfl rfl Tryd.func35 (by kernel_rfl) rfl #[.pointer (some ⟨g, 0, none⟩), .slice Ao5 y112.length co5] rfl (by (try simp only [List.map_toArray, List.map_cons, List.map_nil]); first | done | rfl | (simp only [List.length_drop, List.length_take]; rfl)) ?_; (with_reducible refine (spec_l1Cur_of.calls g s0_0 s0_1 s0_2 _ _ y112 t115 t116 t117 w0 _ ?side1 ?side2 ?side3 ?side4 ?side5 A2.out).mono ?_); (case side1 => repeat (first | (with_reducible first | exact HI0.out | apply IsS48.alloc | apply IsS48.drewN | apply IsS48.drew | apply IsS48.set_1 | apply IsS48.set_2) | exact HI0.out)); (case side2 => repeat (first | (with_reducible first | exact HB.out | apply below_alloc | apply pw_below_drewN | apply below_drew1 | refine below_set ?_ (IsS48.ge HI0.out)) | exact HB.out)); (case side3 => repeat (first | exact (Kd.R_reads' HO114.out).2.2 | (with_reducible refine Kd.C_alloc ?_ _) | (with_reducible refine Kd.C_drewN ?_ _) | (with_reducible refine Kd.C_drew ?_))); (case side4 => exact (Kd.R_reads' HO114.out).2.1); (case side5 => exact far_slice (IsS48.own_ne HI0.out HO114.out (by decide))); rintro e w6 ⟨rfl, hi, hb, hk⟩; refine ⟨_, rfl, ?_⟩; have n0_ := Aside0.mk (Kd.R_mono (Kd.R_keep (IsS48.apart (show IsS48 w0 _ g s0_0 s0_1 s0_2 from by repeat (first | (with_reducible first | exact HI0.out | apply IsS48.alloc | apply IsS48.drewN | apply IsS48.drew | apply IsS48.set_1 | apply IsS48.set_2) | exact HI0.out)) (by (with_reducible repeat (first | apply Kd.R_alloc | apply Kd.R_drewN | apply Kd.R_drew)); exact HO114.out) (by decide)) hk (fun _ h => h.2)) (fun _ h => h.1)); have n1_ := Aside0.mk (KeepBut.trans (by repeat (first | (with_reducible first | exact HK.out | apply KeepBut.set_ | apply keep_drewN | apply keep_drew | apply keep_alloc) | exact HK.out)) hk (.inl rfl)); have n2_ := Aside0.mk (hb); have n3_ := Aside0.mk (hi); clear HO114; clear HK; clear HB; clear HI0; have HO114 := n0_; have HK := n1_; have HB := n2_; have HI0 := n3_; clear n0_ n1_ n2_ n3_; (try clear hb); (try clear hb2); (try clear hk); (try clear hi)))
  go_ret
  (try simp only [Int.add_zero])
  exact ⟨by first | rfl | (simp [errW_none, errW_some] <;> rfl) | (simp [*, errW_none, errW_some] <;> rfl), by repeat (first | (with_reducible first | exact HI0.out | apply IsS48.alloc | apply IsS48.drewN | apply IsS48.drew | apply IsS48.set_1 | apply IsS48.set_2) | exact HI0.out), by repeat (first | (with_reducible first | exact HB.out | apply below_alloc | apply pw_below_drewN | apply below_drew1 | refine below_set ?_ (IsS48.ge HI0.out)) | exact HB.out), by repeat (first | (with_reducible first | exact HK.out | apply KeepBut.set_ | apply keep_drewN | apply keep_drew | apply keep_alloc) | exact HK.out)⟩
def spec_l1Cur_one.f (s0_0 : List Int) (s0_1 : Int) (s0_2 : Int) (a1 : Int) : Option (Bool × Int × Int) := (spec_l1Cur_pick.f s0_0 s0_1 s0_2 a1).bind fun bt122 => (some ((bt122.1 == 0), bt122.2.1, bt122.2.2))
set_option maxHeartbeats 8000000 in
set_option maxRecDepth 100000 in
theorem spec_l1Cur_one.calls (g : Nat) (s0_0 : List Int) (s0_1 : Int) (s0_2 : Int) (a1 : Int) (r1 : Bool) (r2 : Int) (r3 : Int) (w0 w : World) (hI : IsS48 w0 w g s0_0 s0_1 s0_2) (hB : Below w0.heap.size w0 w) (h : spec_l1Cur_one.f s0_0 s0_1 s0_2 a1 = some (r1, r2, r3)) :
    Calls Tryd.prog 38 #[.pointer (some ⟨g, 0, none⟩), .int .i64 a1] w fun e w' => e = .returned (.bool r1) ∧ IsS48 w0 w' g s0_0 r2 r3 ∧ Below w0.heap.size w0 w' ∧ KeepBut w w' g none := by
  have HI0 := Aside0.mk hI
  have HK := Aside0.mk (KeepBut.refl w g none)
  have HL := Aside0.mk hB.size
  clear hI
  have HW0 := Aside0.mk hB.size
  have HB := Aside0.mk hB
  clear hB
  have H : ((spec_l1Cur_pick.f s0_0 s0_1 s0_2 a1).bind fun bt122 => (some ((bt122.1 == 0), bt122.2.1, bt122.2.2))) = some (r1, r2, r3) := h
  clear h
  replace H := Option.bind_eq_some_iff.mp H
  obtain ⟨⟨t122, t123, t124⟩, A30, H⟩ := H
  replace H : (some ((t122 == 0), t123, t124)) = some (r1, r2, r3) := H
  have A3 := Aside0.mk A30
  clear A30
  simp only [Option.some.injEq, Prod.mk.injEq] at H
  obtain ⟨rfl, rfl, rfl⟩ := H
  go_enter Tryd.func38, Tryd.ntmps38
  go_wp2_with (first | ((with_reducible refine gate_callee (f := 37) rfl ?_); refine goesL_ (some 7) rfl rfl Tryd.func37 (by kernel_rfl) rfl #[.pointer (some ⟨g, 0, none⟩), .int .i64 a1] rfl (by (try simp only [List.map_toArray, List.map_cons, List.map_nil]); first | done | rfl | (simp only [List.length_drop, List.length_take]; rfl)) ?_; (with_reducible refine (spec_l1Cur_pick.calls g s0_0 s0_1 s0_2 a1 t122 t123 t124 w0 _ ?side1 ?side2 A3.out).mono ?_); (case side1 => repeat (first | (with_reducible first | exact HI0.out | apply IsS48.alloc | apply IsS48.drewN | apply IsS48.drew | apply IsS48.set_1 | apply IsS48.set_2) | exact HI0.out)); (case side2 => repeat (first | (with_reducible first | exact HB.out | apply below_alloc | apply pw_below_drewN | apply below_drew1 | refine below_set ?_ (IsS48.ge HI0.out)) | exact HB.out)); rintro e w4 ⟨rfl, hi, hb, hk⟩; refine ⟨_, rfl, ?_⟩; have n0_ := Aside0.mk (KeepBut.trans (by repeat (first | (with_reducible first | exact HK.out | apply KeepBut.set_ | apply keep_drewN | apply keep_drew | apply keep_alloc) | exact HK.out)) hk (.inl rfl)); have n1_ := Aside0.mk (hb); have n2_ := Aside0.mk (hi); clear HK; clear HB; clear HI0; have HK := n0_; have HB := n1_; have HI0 := n2_; clear n0_ n1_ n2_; (try clear hb); (try clear hb2); (try clear hk); (try clear hi)))
  go_ret
  (try simp only [Int.add_zero])
  exact ⟨by first | rfl | (simp [errW_none, errW_some] <;> rfl) | (simp [*, errW_none, errW_some] <;> rfl), by repeat (first | (with_reducible first | exact HI0.out | apply IsS48.alloc | apply IsS48.drewN | apply IsS48.drew | apply IsS48.set_1 | apply IsS48.set_2) | exact HI0.out), by repeat (first | (with_reducible first | exact HB.out | apply below_alloc | apply pw_below_drewN | apply below_drew1 | refine below_set ?_ (IsS48.ge HI0.out)) | exact HB.out), by repeat (first | (with_reducible first | exact HK.out | apply KeepBut.set_ | apply keep_drewN | apply keep_drew | apply keep_alloc) | exact HK.out)⟩
end Go.Proofs.YtklddfkhbhkhdaaDoor.Q
namespace Go.Proofs.YtklddfkhbhkhdaaDoor.Q
open Go.RowKit Go.Proofs.YtklddfkhbhkhdaaDoorW.PrintWords Go.Proofs.YtklddfkhbhkhdaaDoorW.PrintLast Go.Proofs.YtklddfkhbhkhdaaDoorW.PrintMore
attribute [local go_sem] run_field_156 run_field_157 isSome_setCell max2_int min2_int max_two min_two max_three min_three max_four min_four   -- for this text's walks alone
set_option linter.unusedVariables false
set_option linter.unusedSimpArgs false
def laws_vBig.f (l0 : List Int) : Option (Bool) := some (decide ((l0.length : Int) > 65536))
set_option maxHeartbeats 8000000 in
set_option maxRecDepth 100000 in
theorem laws_vBig.calls (A0 : Option Addr) (c0 : Nat) (l0 : List Int) (r : Bool) (w : World) (hr0 : Kd.C (Kd.int .u8) w A0 l0.length l0) (hc0 : l0.length ≤ c0) (h : laws_vBig.f l0 = some r) :
    Calls Tryd.prog 9 #[.slice A0 l0.length c0] w fun e w' => e = .returned (.bool r) ∧ Drawn0 w w' := by
  have HR0 := Aside0.mk hr0
  have HC0 := Aside0.mk hc0
  clear hr0 hc0
  have H : (some (decide ((l0.length : Int) > 65536))) = some r := h
  clear h
  obtain rfl := Option.some.inj H
  go_enter Tryd.func9, Tryd.ntmps9
  go_wp2
  go_ret
  exact ⟨by first | rfl | (simp; done) | (simp [*]; done), by repeat (first | exact Drawn0.refl _ | apply Drawn0.step)⟩
end Go.Proofs.YtklddfkhbhkhdaaDoor.Q
namespace Go.Proofs.YtklddfkhbhkhdaaDoor.Q
open Go.RowKit Go.Proofs.YtklddfkhbhkhdaaDoorW.PrintWords Go.Proofs.YtklddfkhbhkhdaaDoorW.PrintLast
def Tab (w : World) : Prop := Lib.TabIs Tryd.prog w "internal/strconv.uint64pow10" .u64 Lib.pow10Tab
theorem gPow : Tryd.prog.globalNamed "internal/strconv.uint64pow10" = some 3 := by kernel_rfl
theorem Tab.below {w w' : World} (h : Tab w) (hb : Below w.heap.size w w') : Tab w' := Joins.var_stays gPow h hb (Nat.le_refl _)
def MaxIs (w : World) : Prop := ∃ m : Int, w.cell? ⟨0, 0, none⟩ = some (.int .i64 m)
theorem MaxIs.below {w w' : World} (h : MaxIs w) (hb : Below w.heap.size w w') : MaxIs w' := by
  obtain ⟨m, hm⟩ := h
  exact ⟨m, (hb.cell (p := ⟨0, 0, none⟩) (World.block_lt_of_cell? w _ hm)).trans hm⟩
end Go.Proofs.YtklddfkhbhkhdaaDoor.Q
namespace Go.Proofs.YtklddfkhbhkhdaaDoor.Q
open Go.RowKit Go.Proofs.YtklddfkhbhkhdaaDoorW.PrintWords
def lw (b : ByteArray) : List UInt8 := b.data.toList
def pw (l : List UInt8) : ByteArray := ⟨l.toArray⟩
end Go.Proofs.YtklddfkhbhkhdaaDoor.Q
namespace Go.Proofs.YtklddfkhbhkhdaaDoor.Q
open Go.RowKit Go.Sort Go.Proofs.YtklddfkhbhkhdaaDoorW.PrintWords Go.Proofs.YtklddfkhbhkhdaaDoorW.PrintLast Go.Proofs.YtklddfkhbhkhdaaDoorW.PrintMore
set_option linter.unusedVariables false
theorem reps_scalar {α : Type} (enc : α → Value) (h1 : ∀ x, (enc x).oneCell' = true) (ps : List α) : Reps (fun x cs => cs = [enc x]) 1 ps (ps.map enc) := by
  refine ⟨by simp, fun j p h => ?_⟩
  obtain ⟨hj, rfl⟩ := List.getElem?_eq_some_iff.1 h
  apply List.ext_getElem
  · simp; omega
  · intro i h1 h2
    simp at h1
    have : i = 0 := by omega
    subst this
    simp
theorem R_of_owns {w : World} {e base : Nat} {ok : Nat → Prop} {v : Value} {xs : List ByteArray} (h : w.ownsRow base e 1 v xs.length (xs.map Value.string)) (hok : ∀ k, v.ownBlock = some k → ok k) : Kd.R Kd.string e w base ok v xs :=
  ⟨hok, _, h, reps_scalar Value.string (fun _ => rfl) xs⟩
end Go.Proofs.YtklddfkhbhkhdaaDoor.Q
namespace Go.Proofs
open Go.Shelf
def Tryd.lSplit_ren : Go.Shelf.Ren := ⟨fun | 146 => 36 | 221 => 55 | 268 => 69 | 138 => 70 | 143 => 57 | 195 => 89 | 197 => 90 | 218 => 91 | 219 => 71 | 260 => 111 | 217 => 92 | 225 => 93 | 224 => 94 | 267 => 95 | 266 => 112 | 314 => 113 | n => n, fun | 9 => 9 | 31 => 29 | 3 => 3 | 4 => 4 | 0 => 0 | 105 => 112 | 21 => 21 | 5 => 5 | 46 => 79 | 119 => 143 | 139 => 161 | 138 => 160 | 146 => 133 | 51 => 84 | n => n, fun | 1 => 0 | 3 => 4 | 4 => 5 | n => n⟩
theorem Tryd.lSplit : Go.Proofs.LaysM.n146 Tryd.prog Tryd.lSplit_ren := {
  mixed := by kernel_rfl
  f138 := Tryd.func70.trans (congrArg some (by kernel_rfl))
  f143 := Tryd.func57.trans (congrArg some (by kernel_rfl))
  f146 := Tryd.func36.trans (congrArg some (by kernel_rfl))
  f195 := Tryd.func89.trans (congrArg some (by kernel_rfl))
  f197 := Tryd.func90.trans (congrArg some (by kernel_rfl))
  f217 := Tryd.func92.trans (congrArg some (by kernel_rfl))
  f218 := Tryd.func91.trans (congrArg some (by kernel_rfl))
  f219 := Tryd.func71.trans (congrArg some (by kernel_rfl))
  f221 := Tryd.func55.trans (congrArg some (by kernel_rfl))
  f224 := Tryd.func94.trans (congrArg some (by kernel_rfl))
  f225 := Tryd.func93.trans (congrArg some (by kernel_rfl))
  f260 := Tryd.func111.trans (congrArg some (by kernel_rfl))
  f266 := Tryd.func112.trans (congrArg some (by kernel_rfl))
  f267 := Tryd.func95.trans (congrArg some (by kernel_rfl))
  f268 := Tryd.func69.trans (congrArg some (by kernel_rfl))
  f314 := Tryd.func113.trans (congrArg some (by kernel_rfl))
  t0 := Tryd.underlying0
  a0 := Tryd.isAgg0
  z0 := Tryd.sizeOf0
  v0 := Tryd.zeroValue0
  t3 := Tryd.underlying3
  a3 := Tryd.isAgg3
  z3 := Tryd.sizeOf3
  v3 := Tryd.zeroValue3
  t4 := Tryd.underlying4
  a4 := Tryd.isAgg4
  z4 := Tryd.sizeOf4
  v4 := Tryd.zeroValue4
  t5 := Tryd.underlying5
  a5 := Tryd.isAgg5
  z5 := Tryd.sizeOf5
  v5 := Tryd.zeroValue5
  t9 := Tryd.underlying9
  a9 := Tryd.isAgg9
  z9 := Tryd.sizeOf9
  v9 := Tryd.zeroValue9
  t21 := Tryd.underlying21
  a21 := Tryd.isAgg21
  z21 := Tryd.sizeOf21
  v21 := Tryd.zeroValue21
  t31 := Tryd.underlying29
  a31 := Tryd.isAgg29
  z31 := Tryd.sizeOf29
  v31 := Tryd.zeroValue29
  t46 := Tryd.underlying79
  a46 := Tryd.isAgg79
  z46 := Tryd.sizeOf79
  v46 := Tryd.zeroValue79
  t51 := Tryd.underlying84
  a51 := Tryd.isAgg84
  z51 := Tryd.sizeOf84
  v51 := Tryd.zeroValue84
  t105 := Tryd.underlying112
  a105 := Tryd.isAgg112
  z105 := Tryd.sizeOf112
  v105 := Tryd.zeroValue112
  t119 := Tryd.underlying143
  a119 := Tryd.isAgg143
  z119 := Tryd.sizeOf143
  t138 := Tryd.underlying160
  a138 := Tryd.isAgg160
  z138 := Tryd.sizeOf160
  v138 := Tryd.zeroValue160
  t139 := Tryd.underlying161
  a139 := Tryd.isAgg161
  z139 := Tryd.sizeOf161
  v139 := Tryd.zeroValue161
  t146 := Tryd.underlying133
  a146 := Tryd.isAgg133
  z146 := Tryd.sizeOf133
  v146 := Tryd.zeroValue133
  g1 := by kernel_rfl
  g3 := by kernel_rfl
  g4 := by kernel_rfl
  i0 := by kernel_rfl
  i3 := by kernel_rfl
  i4 := by kernel_rfl
  i5 := by kernel_rfl
  i9 := by kernel_rfl
  i21 := by kernel_rfl
  i31 := by kernel_rfl
  i46 := by kernel_rfl
  i51 := by kernel_rfl
  i105 := by kernel_rfl
  i138 := by kernel_rfl
  i139 := by kernel_rfl
  i146 := by kernel_rfl
  m1 := by kernel_rfl
  s1_3 := fun w h => Go.Proofs.cell_of_shapedOpen_int (zero := #[.int .i64 0]) (t := 3) h (of_decide_eq_true (by kernel_rfl)) (by kernel_rfl) rfl (by kernel_rfl) (by kernel_rfl) Tryd.underlying3
  m3 := by kernel_rfl
  m4 := by kernel_rfl }
end Go.Proofs
namespace Go.Proofs.YtklddfkhbhkhdaaDoor.Q
open Go.RowKit Go.Shelf Go.Proofs.YtklddfkhbhkhdaaDoorW.PrintWords Go.Proofs.YtklddfkhbhkhdaaDoorW.PrintLast Go.Proofs.YtklddfkhbhkhdaaDoorW.PrintMore
def splitW (s sep : ByteArray) : List ByteArray := Lib.splitB sep 0 (Lib.countB s sep) s
def strings_Split.f (a0 a1 : ByteArray) : Option (List ByteArray) := if a0.size < 4294967281 ∧ 1 ≤ a1.size then some (splitW a0 a1) else none
theorem splitW_length (s sep : ByteArray) (h : 1 ≤ sep.size) : (splitW s sep).length = Lib.countB s sep + 1 := Lib.splitB_all sep h 0 _ s rfl
theorem strings_Split.calls (a0 a1 : ByteArray) (r : List ByteArray) (w : World) (h : strings_Split.f a0 a1 = some r) (hG_MaxIs : MaxIs w) :
    Calls Tryd.prog 36 #[.string a0, .string a1] w fun e w' => ∃ v0_ : Value, e = .returned (v0_) ∧ Kd.R Kd.string 9 w' w.heap.size (fun _ => True) v0_ r ∧ Below w.heap.size w w' := by
  unfold strings_Split.f at h
  split at h
  case isFalse => cases h
  rename_i hn
  obtain rfl := Option.some.inj h
  obtain ⟨m, hm⟩ := hG_MaxIs
  refine (Any.strings_Split { Tryd.lSplit with } Tryd.lSplit.i9 a0 a1 m w hn.1 hm hn.2).mono ?_
  rintro e w' ⟨rfl, rfl⟩
  have hl := splitW_length a0 a1 hn.2
  have hle := Lib.countB_le a1 hn.2 a0.size a0 (Nat.le_refl _)
  refine ⟨_, rfl, R_of_owns ?_ (fun _ _ => trivial), (Below.refl _ _).alloc (Nat.le_refl _) _⟩
  rw [hl]
  refine ⟨by rw [List.length_map, hl, Nat.mul_one], .inr ⟨w.heap.size, Lib.countB a0 a1 + 1, _, rfl, Nat.le_refl _, Go.heap_alloc_new w _, Nat.le_refl _, by unfold maxLen; omega, ?_, ?_⟩⟩
  · simp only [List.size_toArray, List.length_map]
    have := hl
    unfold splitW at this
    omega
  · have hl2 : ((splitW a0 a1).map Value.string).length = Lib.countB a0 a1 + 1 := by rw [List.length_map, hl]
    show ((splitW a0 a1).map Value.string).toArray.toList.take ((Lib.countB a0 a1 + 1) * 1) = _
    rw [List.toList_toArray, Nat.mul_one, ← hl2, List.take_length]
end Go.Proofs.YtklddfkhbhkhdaaDoor.Q
namespace Go.Proofs.YtklddfkhbhkhdaaDoor.Q
open Go.RowKit Go.Proofs.YtklddfkhbhkhdaaDoorW.PrintWords Go.Proofs.YtklddfkhbhkhdaaDoorW.PrintLast Go.Proofs.YtklddfkhbhkhdaaDoorW.PrintMore
attribute [local go_sem] run_field_156 run_field_157 isSome_setCell max2_int min2_int max_two min_two max_three min_three max_four min_four   -- for this text's walks alone
set_option linter.unusedVariables false
set_option linter.unusedSimpArgs false
def impl_SplitString.f (a0 : ByteArray) (a1 : ByteArray) : Option (List ByteArray × Bool) := if (a0.size : Int) > 4000 then (some (([] : List ByteArray), false)) else (if (a1.size : Int) = 1 then ((strings_Split.f a0 a1).bind fun t163 => (some (t163, true))) else (some (([] : List ByteArray), false)))
set_option maxHeartbeats 8000000 in
set_option maxRecDepth 100000 in
theorem impl_SplitString.calls (a0 : ByteArray) (a1 : ByteArray) (r1 : List ByteArray) (r2 : Bool) (w : World) (h : impl_SplitString.f a0 a1 = some (r1, r2)) (hG_MaxIs : MaxIs w) :
    Calls Tryd.prog 11 #[.string a0, .string a1] w fun e w' => ∃ v0_ : Value, e = .returned (.tuple #[v0_, .bool r2]) ∧ Kd.R Kd.string 9 w' w.heap.size (fun _ => True) v0_ r1 ∧ Below w.heap.size w w' := by
  have HG_MaxIs := Aside0.mk hG_MaxIs
  clear hG_MaxIs
  have HB := Aside0.mk (Below.refl w.heap.size w)
  have H : (if (a0.size : Int) > 4000 then (some (([] : List ByteArray), false)) else (if (a1.size : Int) = 1 then ((strings_Split.f a0 a1).bind fun t163 => (some (t163, true))) else (some (([] : List ByteArray), false)))) = some (r1, r2) := h
  clear h
  by_cases c3 : (a0.size : Int) > 4000
  · rw [if_pos c3] at H
    have c3b0 : decide (4000 < (a0.size : Int)) = true := decide_eq_true c3
    have c3b1 : decide (4000 < a0.size) = true := decide_eq_true (by omega)
    clear c3
    simp only [Option.some.injEq, Prod.mk.injEq] at H
    obtain ⟨rfl, rfl⟩ := H
    go_enter Tryd.func11, Tryd.ntmps11
    go_wp2
    go_ret2
    exact ⟨_, by first | rfl | (simp [errW_none, errW_some] <;> rfl) | (simp [*, errW_none, errW_some] <;> rfl), by first | exact Kd.R_nil _ _ _ _ _ | exact Kd.N_nil _ _ _ _ _ | exact Kd.V_nil _ _ _ _ _ | exact Kd.Q_nil _ _ _ _ _ | exact Kd.S_nil _ _ _ _ _, by repeat (first | (with_reducible first | exact HB.out | apply below_alloc | apply pw_below_drewN | apply below_drew1) | exact HB.out)⟩
  · rw [if_neg c3] at H
    have c3b0 : decide (4000 < (a0.size : Int)) = false := decide_eq_false c3
    have c3b1 : decide (4000 < a0.size) = false := decide_eq_false (by omega)
    clear c3
    by_cases c4 : (a1.size : Int) = 1
    · rw [if_pos c4] at H
      have c4b0 : ((a1.size : Int) == 1) = true := beq_iff_eq.mpr c4
      have c4b1 : ((a1.size : Int) != 1) = false := bne_eq_false_iff_eq.mpr c4
      clear c4
      replace H := Option.bind_eq_some_iff.mp H
      obtain ⟨t163, A50, H⟩ := H
      replace H : (some (t163, true)) = some (r1, r2) := H
      have A5 := Aside0.mk A50
      clear A50
      simp only [Option.some.injEq, Prod.mk.injEq] at H
      obtain ⟨rfl, rfl⟩ := H
      go_enter Tryd.func11, Tryd.ntmps11
      go_wp2_with (first | ((with_reducible refine gate_callee (f := 36) rfl ?_); refine goesL_ (some 16) rfl rfl Tryd.func36 (by kernel_rfl) rfl #[.string a0, .string a1] rfl (by (try simp only [List.map_toArray, List.map_cons, List.map_nil]); first | done | rfl | (simp only [List.length_drop, List.length_take]; rfl)) ?_; (with_reducible refine (strings_Split.calls a0 a1 t163 _ A5.out (MaxIs.below HG_MaxIs.out (by repeat (first | (with_reducible first | exact HB.out | apply below_alloc | apply pw_below_drewN | apply below_drew1) | exact HB.out)))).mono ?_); rintro e w6 ⟨v164, rfl, ho0, hb⟩; refine ⟨_, rfl, ?_⟩; have n0_ := Aside0.mk (Kd.R_lower ho0 (below_size (by repeat (first | (with_reducible first | exact HB.out | apply below_alloc | apply pw_below_drewN | apply below_drew1) | exact HB.out)))); have n1_ := Aside0.mk (below_step (by repeat (first | (with_reducible first | exact HB.out | apply below_alloc | apply pw_below_drewN | apply below_drew1) | exact HB.out)) hb); clear HB; have HO165 := n0_; have HB := n1_; clear n0_ n1_; (try clear hb); (try clear hb2); (try clear hk); (try clear hi); (try clear ho0)))
      go_ret2
      exact ⟨_, by first | rfl | (simp [errW_none, errW_some] <;> rfl) | (simp [*, errW_none, errW_some] <;> rfl), by (with_reducible repeat (first | apply Kd.R_alloc | apply Kd.R_drewN | apply Kd.R_drew)); exact HO165.out, by repeat (first | (with_reducible first | exact HB.out | apply below_alloc | apply pw_below_drewN | apply below_drew1) | exact HB.out)⟩
    · rw [if_neg c4] at H
      have c4b0 : ((a1.size : Int) == 1) = false := beq_eq_false_iff_ne.mpr c4
      have c4b1 : ((a1.size : Int) != 1) = true := bne_iff_ne.mpr c4
      simp only [Option.some.injEq, Prod.mk.injEq] at H
      obtain ⟨rfl, rfl⟩ := H
      go_enter Tryd.func11, Tryd.ntmps11
      go_wp2
      go_ret2
      exact ⟨_, by first | rfl | (simp [errW_none, errW_some] <;> rfl) | (simp [*, errW_none, errW_some] <;> rfl), by first | exact Kd.R_nil _ _ _ _ _ | exact Kd.N_nil _ _ _ _ _ | exact Kd.V_nil _ _ _ _ _ | exact Kd.Q_nil _ _ _ _ _ | exact Kd.S_nil _ _ _ _ _, by repeat (first | (with_reducible first | exact HB.out | apply below_alloc | apply pw_below_drewN | apply below_drew1) | exact HB.out)⟩
end Go.Proofs.YtklddfkhbhkhdaaDoor.Q
namespace Go.Proofs
open Go.Shelf
def Tryd.lContains_ren : Go.Shelf.Ren := ⟨fun | 144 => 39 | 143 => 57 | 219 => 71 | 217 => 92 | 225 => 93 | 224 => 94 | 267 => 95 | 266 => 112 | 314 => 113 | n => n, fun | 9 => 9 | 4 => 4 | 3 => 3 | 5 => 5 | 46 => 79 | 146 => 133 | 51 => 84 | n => n, fun | 1 => 0 | n => n⟩
theorem Tryd.lContains : Go.Proofs.Lays.n144 Tryd.prog Tryd.lContains_ren := {
  mixed := by kernel_rfl
  f143 := Tryd.func57.trans (congrArg some (by kernel_rfl))
  f144 := Tryd.func39.trans (congrArg some (by kernel_rfl))
  f217 := Tryd.func92.trans (congrArg some (by kernel_rfl))
  f219 := Tryd.func71.trans (congrArg some (by kernel_rfl))
  f224 := Tryd.func94.trans (congrArg some (by kernel_rfl))
  f225 := Tryd.func93.trans (congrArg some (by kernel_rfl))
  f266 := Tryd.func112.trans (congrArg some (by kernel_rfl))
  f267 := Tryd.func95.trans (congrArg some (by kernel_rfl))
  f314 := Tryd.func113.trans (congrArg some (by kernel_rfl))
  t3 := Tryd.underlying3
  a3 := Tryd.isAgg3
  z3 := Tryd.sizeOf3
  v3 := Tryd.zeroValue3
  t4 := Tryd.underlying4
  a4 := Tryd.isAgg4
  z4 := Tryd.sizeOf4
  v4 := Tryd.zeroValue4
  t5 := Tryd.underlying5
  a5 := Tryd.isAgg5
  z5 := Tryd.sizeOf5
  v5 := Tryd.zeroValue5
  t9 := Tryd.underlying9
  a9 := Tryd.isAgg9
  z9 := Tryd.sizeOf9
  v9 := Tryd.zeroValue9
  t46 := Tryd.underlying79
  a46 := Tryd.isAgg79
  z46 := Tryd.sizeOf79
  v46 := Tryd.zeroValue79
  t51 := Tryd.underlying84
  a51 := Tryd.isAgg84
  z51 := Tryd.sizeOf84
  v51 := Tryd.zeroValue84
  t146 := Tryd.underlying133
  a146 := Tryd.isAgg133
  z146 := Tryd.sizeOf133
  v146 := Tryd.zeroValue133
  g1 := by kernel_rfl }
end Go.Proofs
namespace Go.Proofs.YtklddfkhbhkhdaaDoor.Q
open Go.RowKit Go.Shelf Go.Proofs.YtklddfkhbhkhdaaDoorW.PrintWords Go.Proofs.YtklddfkhbhkhdaaDoorW.PrintLast Go.Proofs.YtklddfkhbhkhdaaDoorW.PrintMore
def strings_Contains.f (a0 a1 : ByteArray) : Option Bool := match a1.data.toList with
  | [c] => some (decide (0 ≤ Lib.indexByte a0.data.toList c))
  | _ => none
theorem strings_Contains.calls (a0 a1 : ByteArray) (r : Bool) (w : World) (h : strings_Contains.f a0 a1 = some r) :
    Calls Tryd.prog 39 #[.string a0, .string a1] w fun e w' => e = .returned (.bool r) ∧ Below w.heap.size w w' := by
  unfold strings_Contains.f at h
  split at h
  case h_2 => cases h
  rename_i c hc
  obtain rfl := Option.some.inj h
  obtain ⟨⟨l⟩⟩ := a1
  simp only at hc
  subst hc
  refine (Any.strings_Contains_one Tryd.lContains a0 c w).mono ?_
  rintro e w' ⟨rfl, rfl⟩
  exact ⟨rfl, Below.refl _ _⟩
end Go.Proofs.YtklddfkhbhkhdaaDoor.Q
namespace Go.Proofs
open Go.Shelf
def Tryd.lays156_ren : Go.Shelf.Ren := ⟨fun | 156 => 40 | 165 => 58 | 166 => 59 | 169 => 60 | 240 => 72 | 241 => 73 | 276 => 96 | 277 => 97 | n => n, fun | 31 => 29 | 9 => 9 | 3 => 3 | 4 => 4 | 0 => 0 | 20 => 20 | 72 => 72 | 76 => 61 | 70 => 70 | 37 => 25 | 75 => 60 | 127 => 80 | 164 => 115 | 5 => 5 | 80 => 49 | n => n, fun | n => n⟩
theorem Tryd.lays156 : Go.Proofs.Lays.n156 Tryd.prog Tryd.lays156_ren := {
  mixed := by kernel_rfl
  f156 := Tryd.func40.trans (congrArg some (by kernel_rfl))
  f165 := Tryd.func58.trans (congrArg some (by kernel_rfl))
  f166 := Tryd.func59.trans (congrArg some (by kernel_rfl))
  f169 := Tryd.func60.trans (congrArg some (by kernel_rfl))
  f240 := Tryd.func72.trans (congrArg some (by kernel_rfl))
  f241 := Tryd.func73.trans (congrArg some (by kernel_rfl))
  f276 := Tryd.func96.trans (congrArg some (by kernel_rfl))
  f277 := Tryd.func97.trans (congrArg some (by kernel_rfl))
  t0 := Tryd.underlying0
  a0 := Tryd.isAgg0
  z0 := Tryd.sizeOf0
  v0 := Tryd.zeroValue0
  t3 := Tryd.underlying3
  a3 := Tryd.isAgg3
  z3 := Tryd.sizeOf3
  v3 := Tryd.zeroValue3
  t4 := Tryd.underlying4
  a4 := Tryd.isAgg4
  z4 := Tryd.sizeOf4
  v4 := Tryd.zeroValue4
  t9 := Tryd.underlying9
  a9 := Tryd.isAgg9
  z9 := Tryd.sizeOf9
  v9 := Tryd.zeroValue9
  t20 := Tryd.underlying20
  a20 := Tryd.isAgg20
  z20 := Tryd.sizeOf20
  v20 := Tryd.zeroValue20
  t31 := Tryd.underlying29
  a31 := Tryd.isAgg29
  z31 := Tryd.sizeOf29
  v31 := Tryd.zeroValue29
  t37 := Tryd.underlying25
  a37 := Tryd.isAgg25
  z37 := Tryd.sizeOf25
  v37 := Tryd.zeroValue25
  t70 := Tryd.underlying70
  a70 := Tryd.isAgg70
  z70 := Tryd.sizeOf70
  v70 := Tryd.zeroValue70
  t72 := Tryd.underlying72
  a72 := Tryd.isAgg72
  z72 := Tryd.sizeOf72
  v72 := Tryd.zeroValue72
  t75 := Tryd.underlying60
  a75 := Tryd.isAgg60
  z75 := Tryd.sizeOf60
  v75 := Tryd.zeroValue60
  t76 := Tryd.underlying61
  a76 := Tryd.isAgg61
  z76 := Tryd.sizeOf61
  v76 := Tryd.zeroValue61
  t127 := Tryd.underlying80
  a127 := Tryd.isAgg80
  z127 := Tryd.sizeOf80
  v127 := Tryd.zeroValue80
  t164 := Tryd.underlying115
  a164 := Tryd.isAgg115
  z164 := Tryd.sizeOf115
  v164 := Tryd.zeroValue115 }
theorem Tryd.Builder_Extra_156 : Builder.Extra Tryd.prog Tryd.lays156_ren := {
  sizeBuilder := by kernel_rfl
  liesBuilder := by kernel_rfl
  t5 := Tryd.underlying5
  a5 := Tryd.isAgg5
  z5 := Tryd.sizeOf5
  v5 := Tryd.zeroValue5
  infoByte := by kernel_rfl
  cellsByte := by kernel_rfl
  sizeByte := by kernel_rfl
  neB5 := by decide }
end Go.Proofs
namespace Go.Proofs.YtklddfkhbhkhdaaDoor.Q
open Go.RowKit Go.Shelf Go.Proofs.YtklddfkhbhkhdaaDoorW.PrintWords Go.Proofs.YtklddfkhbhkhdaaDoorW.PrintLast Go.Proofs.YtklddfkhbhkhdaaDoorW.PrintMore
theorem C_lit {w : World} {A : Option Addr} {l : List ByteArray} (h : Kd.C Kd.string w A l.length l) (hn : 0 < l.length) :
    ∃ bk o, A = some ⟨bk, o, none⟩ ∧ bk < w.heap.size ∧ ∀ (j : Nat) x, l[j]? = some x → w.cell? ⟨bk, o + j, none⟩ = some (.string x) := by
  obtain ⟨ad, rfl, h0⟩ := Kd.at_string h 0 (by omega) (by omega)
  obtain ⟨bk, o, sp⟩ := ad
  have hs : sp = none := by
    cases sp with
    | none => rfl
    | some z =>
      simp only [Int.toNat_zero, Addr.add_zero'] at h0
      unfold World.cell? at h0
      simp at h0
      split at h0 <;> cases h0
  subst hs
  refine ⟨bk, o, rfl, World.block_lt_of_cell? w _ h0, fun j x hx => ?_⟩
  obtain ⟨hj, rfl⟩ := List.getElem?_eq_some_iff.1 hx
  obtain ⟨ad, e, h1⟩ := Kd.at_string h (j : Int) (by omega) (by omega)
  injection e with e
  subst e
  rw [Int.toNat_natCast, Addr.add_lit] at h1
  rw [h1]
  simp [rdOf, hj]
def joinW (sep : ByteArray) (l : List ByteArray) : ByteArray := pw (Lib.join (l.map lw) (lw sep))
def okJoin (sep : ByteArray) (l : List ByteArray) : Bool := decide (l.length ≤ 140737488355328) && decide ((joinW sep l).size ≤ 140737488355328)
def strings_Join.f (l0 : List ByteArray) (a1 : ByteArray) : Option ByteArray := if okJoin a1 l0 = true then some (joinW a1 l0) else none
theorem strings_Join.calls (A0 : Option Addr) (c0 : Nat) (l0 : List ByteArray) (a1 : ByteArray) (r : ByteArray) (w : World) (hr0 : Kd.C Kd.string w A0 l0.length l0) (hc0 : l0.length ≤ c0) (h : strings_Join.f l0 a1 = some r) :
    Calls Tryd.prog 40 #[.slice A0 l0.length c0, .string a1] w fun e w' => e = .returned (.string r) ∧ Below w.heap.size w w' := by
  unfold strings_Join.f at h
  split at h
  case isFalse => cases h
  rename_i hk
  obtain rfl := Option.some.inj h
  simp only [okJoin, Bool.and_eq_true, decide_eq_true_eq] at hk
  by_cases hn : 0 < l0.length
  · obtain ⟨bk, o, rfl, hbk, hc⟩ := C_lit hr0 hn
    exact Any.strings_Join Tryd.lays156 Tryd.Builder_Extra_156 bk o c0 l0 a1 w hc hbk hk.1 hc0 (by have := hk.2; unfold joinW at this; rwa [ByteArray.size, pw, ← Array.length_toList] at this)
  · have h0 : l0 = [] := List.eq_nil_of_length_eq_zero (by omega)
    subst h0
    refine (Any.strings_Join_none Tryd.lays156 Tryd.Builder_Extra_156 A0 c0 a1 w).mono ?_
    rintro e w' ⟨rfl, rfl⟩
    exact ⟨rfl, Below.refl _ _⟩
end Go.Proofs.YtklddfkhbhkhdaaDoor.Q
namespace Go.Proofs.YtklddfkhbhkhdaaDoor.Q
open Go.RowKit Go.Proofs.YtklddfkhbhkhdaaDoorW.PrintWords Go.Proofs.YtklddfkhbhkhdaaDoorW.PrintLast Go.Proofs.YtklddfkhbhkhdaaDoorW.PrintMore
attribute [local go_sem] run_field_156 run_field_157 isSome_setCell max2_int min2_int max_two min_two max_three min_three max_four min_four   -- for this text's walks alone
set_option linter.unusedVariables false
set_option linter.unusedSimpArgs false
mutual
def impl_JoinStrings.j0 : Nat → List ByteArray → ByteArray → Bool → Option (ByteArray × Bool)
  | 0, _, _, _ => none
  | k + 1, x0, x1, x16 => if x16 = true then (some ((⟨#[]⟩ : ByteArray), false)) else (impl_JoinStrings.l0 k x0 x1 (wrap64 ((x0.length : Int) - 1)) x0 (x0.length : Int) 0)
def impl_JoinStrings.l0 : Nat → List ByteArray → ByteArray → Int → List ByteArray → Int → Int → Option (ByteArray × Bool)
  | 0, _, _, _, _, _, _ => none
  | k + 1, x0, x1, x6, x20, x21, x22 => if x22 < x21 then (if 0 ≤ x22 then (if x22 < (x20.length : Int) then ((strings_Contains.f (rdOf ByteArray.empty x20 x22) x1).bind fun t167 => (if t167 = true then (some ((⟨#[]⟩ : ByteArray), false)) else (impl_JoinStrings.l0 k x0 x1 (wrap64 (x6 + ((rdOf ByteArray.empty x20 x22).size : Int))) x20 x21 (wrap64 (x22 + 1))))) else (none)) else (none)) else (if x6 > 4000 then (some ((⟨#[]⟩ : ByteArray), false)) else ((strings_Join.f x0 x1).bind fun t168 => (some (t168, true))))
end
def impl_JoinStrings.f (k : Nat) (l0 : List ByteArray) (a1 : ByteArray) : Option (ByteArray × Bool) := if (l0.length : Int) = 0 then (impl_JoinStrings.j0 k l0 a1 true) else (impl_JoinStrings.j0 k l0 a1 ((a1.size : Int) != 1))
set_option maxHeartbeats 8000000 in
set_option maxRecDepth 100000 in
theorem impl_JoinStrings.calls (k : Nat) (A0 : Option Addr) (c0 : Nat) (l0 : List ByteArray) (a1 : ByteArray) (r1 : ByteArray) (r2 : Bool) (w : World) (hr0 : Kd.C Kd.string w A0 l0.length l0) (hc0 : l0.length ≤ c0) (h : impl_JoinStrings.f k l0 a1 = some (r1, r2)) :
    Calls Tryd.prog 13 #[.slice A0 l0.length c0, .string a1] w fun e w' => e = .returned (.tuple #[.string r1, .bool r2]) ∧ Below w.heap.size w w' := by
  have HR0 := Aside0.mk hr0
  have HC0 := Aside0.mk hc0
  clear hr0 hc0
  have HB := Aside0.mk (Below.refl w.heap.size w)
  have H : (if (l0.length : Int) = 0 then (impl_JoinStrings.j0 k l0 a1 true) else (impl_JoinStrings.j0 k l0 a1 ((a1.size : Int) != 1))) = some (r1, r2) := h
  clear h
  have HC3 := Aside0.mk H
  clear H
  go_enter Tryd.func13, Tryd.ntmps13
  go_upto_region 1 with (fail)
  go_cut [16] (fun v16 wc => ∃ (kq : Nat) (x16_2 : Bool), v16 = .bool x16_2 ∧ Aside0 (impl_JoinStrings.j0 kq l0 a1 x16_2 = some (r1, r2)) ∧ Aside0 (kq ≤ k) ∧ Aside0 (Below w.heap.size w wc))
  case first =>
    have H := HC3.out
    clear HC3
    by_cases c4 : (l0.length : Int) = 0
    · rw [if_pos c4] at H
      have c4b0 : ((l0.length : Int) == 0) = true := beq_iff_eq.mpr c4
      have c4b1 : ((l0.length : Int) != 0) = false := bne_eq_false_iff_eq.mpr c4
      clear c4
      (first | rw [c4b0] | (simp only [i64_w, i32_w]; rw [c4b0]) | skip)
      have H' := Aside0.mk H
      clear H
      go_wp2
      go_meet
      case rel => exact ⟨_, (true), (by first | rfl | (simp; done) | (simp [*]; done)), H', ⟨by first | omega | exact Nat.le_refl _⟩, ⟨by repeat (first | (with_reducible first | exact HB.out | apply below_alloc | apply pw_below_drewN | apply below_drew1) | exact HB.out)⟩⟩
    · rw [if_neg c4] at H
      have c4b0 : ((l0.length : Int) == 0) = false := beq_eq_false_iff_ne.mpr c4
      have c4b1 : ((l0.length : Int) != 0) = true := bne_iff_ne.mpr c4
      have c4b2 : ¬ (l0 = []) := fun h_ => c4 (by rw [h_]; rfl)
      (first | rw [c4b0] | (simp only [i64_w, i32_w]; rw [c4b0]) | skip)
      have H' := Aside0.mk H
      clear H
      go_wp2
      go_meet
      case rel => exact ⟨_, (((a1.size : Int) != 1)), (by first | rfl | (simp; done) | (simp [*]; done)), H', ⟨by first | omega | exact Nat.le_refl _⟩, ⟨by repeat (first | (with_reducible first | exact HB.out | apply below_alloc | apply pw_below_drewN | apply below_drew1) | exact HB.out)⟩⟩
  case rest =>
    clear HC3
    try clear c1
    try clear p2
    try clear c4
    try clear c4b0
    try clear c4b1
    try clear c4b2
    obtain ⟨kq, x16_2, rfl, HA, HJ2, HB⟩ := hcut
    cases kq with
    | zero => exact absurd HA.out (by simp [impl_JoinStrings.j0])
    | succ kj2 =>
      have H := HA.out
      clear HA
      simp only [impl_JoinStrings.j0] at H
      by_cases c5 : x16_2 = true
      · subst c5
        have H1 : (some ((⟨#[]⟩ : ByteArray), false)) = some (r1, r2) := by rw [if_pos rfl] at H; exact H
        clear H
        have H := H1
        clear H1
        simp only [Option.some.injEq, Prod.mk.injEq] at H
        obtain ⟨rfl, rfl⟩ := H
        go_wp2
        go_ret2
        exact ⟨by first | rfl | (simp [errW_none, errW_some] <;> rfl) | (simp [*, errW_none, errW_some] <;> rfl), by repeat (first | (with_reducible first | exact HB.out | apply below_alloc | apply pw_below_drewN | apply below_drew1) | exact HB.out)⟩
      · replace c5 := Bool.eq_false_iff.mpr c5
        subst c5
        have H1 : (impl_JoinStrings.l0 kj2 l0 a1 (wrap64 ((l0.length : Int) - 1)) l0 (l0.length : Int) 0) = some (r1, r2) := by rw [if_neg (show ¬ (false = true) by decide)] at H; exact H
        clear H
        have H := H1
        clear H1
        have H' := Aside0.mk H
        clear H
        go_wp2
        go_loopg [6, 22] kj2 (fun kq v6 v22 w' => ∃ (x6_2 : Int) (x22_2 : Int), v6 = .int .i64 x6_2 ∧ v22 = .int .i64 x22_2 ∧ Aside0 (impl_JoinStrings.l0 kq l0 a1 x6_2 l0 (l0.length : Int) x22_2 = some (r1, r2)) ∧ Aside0 (kq ≤ kj2) ∧ Aside0 (Below w.heap.size w w'))
        case atStart => exact ⟨(wrap64 ((l0.length : Int) - 1)), (0), (by first | rfl | (simp; done) | (simp [*]; done)), (by first | rfl | (simp; done) | (simp [*]; done)), H', ⟨Nat.le_refl _⟩, ⟨by repeat (first | (with_reducible first | exact HB.out | apply below_alloc | apply pw_below_drewN | apply below_drew1) | exact HB.out)⟩⟩
        case round =>
          clear H'
          try clear c1
          try clear p2
          try clear c4
          try clear c4b0
          try clear c4b1
          try clear c4b2
          try clear c5
          try clear p2
          obtain ⟨x6_2, x22_2, rfl, rfl, HA, HK2, HB⟩ := hrel
          cases gk with
          | zero => exact absurd HA.out (by simp [impl_JoinStrings.l0])
          | succ k2 =>
            have H := HA.out
            clear HA
            simp only [impl_JoinStrings.l0] at H
            by_cases c6 : x22_2 < (l0.length : Int)
            · rw [if_pos c6] at H
              have c6b0 : decide (x22_2 < (l0.length : Int)) = true := decide_eq_true c6
              clear c6
              by_cases c7 : 0 ≤ x22_2
              · rw [if_pos c7] at H
                have c7b0 : decide (0 ≤ x22_2) = true := decide_eq_true c7
                clear c7
                by_cases c8 : x22_2 < (l0.length : Int)
                · rw [if_pos c8] at H
                  have c8b0 : decide (x22_2 < (l0.length : Int)) = true := decide_eq_true c8
                  clear c8
                  replace H := Option.bind_eq_some_iff.mp H
                  obtain ⟨t167, A90, H⟩ := H
                  replace H : (if t167 = true then (some ((⟨#[]⟩ : ByteArray), false)) else (impl_JoinStrings.l0 k2 l0 a1 (wrap64 (x6_2 + ((rdOf ByteArray.empty l0 x22_2).size : Int))) l0 (l0.length : Int) (wrap64 (x22_2 + 1)))) = some (r1, r2) := H
                  have A9 := Aside0.mk A90
                  clear A90
                  by_cases c10 : t167 = true
                  · subst c10
                    have H1 : (some ((⟨#[]⟩ : ByteArray), false)) = some (r1, r2) := by rw [if_pos rfl] at H; exact H
                    clear H
                    have H := H1
                    clear H1
                    simp only [Option.some.injEq, Prod.mk.injEq] at H
                    obtain ⟨rfl, rfl⟩ := H
                    have p166 : 0 ≤ (x22_2 : Int) := of_decide_eq_true (by first | (with_reducible assumption) | assumption)
                    have q166 : x22_2 < (l0.length : Int) := of_decide_eq_true (by first | (with_reducible assumption) | assumption)
                    obtain ⟨ad166, e166, hx166_0⟩ := Kd.at_string HR0.out x22_2 p166 q166
                    cases e166
                    replace hx166_0 := (HB.out.cell (World.block_lt_of_cell? w _ hx166_0)).trans hx166_0
                    replace p166 := eq_true p166
                    replace q166 := eq_true q166
                    go_wp2_with (first | ((with_reducible refine gate_callee (f := 39) rfl ?_); refine goesL_ (some 32) rfl rfl Tryd.func39 (by kernel_rfl) rfl #[.string (rdOf ByteArray.empty l0 x22_2), .string a1] rfl (by (try simp only [List.map_toArray, List.map_cons, List.map_nil]); first | done | rfl | (simp only [List.length_drop, List.length_take]; rfl)) ?_; (with_reducible refine (strings_Contains.calls (rdOf ByteArray.empty l0 x22_2) a1 true _ A9.out).mono ?_); rintro e w11 ⟨rfl, hb⟩; refine ⟨_, rfl, ?_⟩; have n0_ := Aside0.mk (below_step (by repeat (first | (with_reducible first | exact HB.out | apply below_alloc | apply pw_below_drewN | apply below_drew1) | exact HB.out)) hb); clear HB; have HB := n0_; clear n0_; (try clear hb); (try clear hb2); (try clear hk); (try clear hi)))
                    go_ret2
                    exact ⟨by first | rfl | (simp [errW_none, errW_some] <;> rfl) | (simp [*, errW_none, errW_some] <;> rfl), by repeat (first | (with_reducible first | exact HB.out | apply below_alloc | apply pw_below_drewN | apply below_drew1) | exact HB.out)⟩
                  · replace c10 := Bool.eq_false_iff.mpr c10
                    subst c10
                    have H1 : (impl_JoinStrings.l0 k2 l0 a1 (wrap64 (x6_2 + ((rdOf ByteArray.empty l0 x22_2).size : Int))) l0 (l0.length : Int) (wrap64 (x22_2 + 1))) = some (r1, r2) := by rw [if_neg (show ¬ (false = true) by decide)] at H; exact H
                    clear H
                    have H := H1
                    clear H1
                    have H' := Aside0.mk H
                    clear H
                    have p166 : 0 ≤ (x22_2 : Int) := of_decide_eq_true (by first | (with_reducible assumption) | assumption)
                    have q166 : x22_2 < (l0.length : Int) := of_decide_eq_true (by first | (with_reducible assumption) | assumption)
                    obtain ⟨ad166, e166, hx166_0⟩ := Kd.at_string HR0.out x22_2 p166 q166
                    cases e166
                    replace hx166_0 := (HB.out.cell (World.block_lt_of_cell? w _ hx166_0)).trans hx166_0
                    replace p166 := eq_true p166
                    replace q166 := eq_true q166
                    go_wp2_with (first | ((with_reducible refine gate_callee (f := 39) rfl ?_); refine goesL_ (some 32) rfl rfl Tryd.func39 (by kernel_rfl) rfl #[.string (rdOf ByteArray.empty l0 x22_2), .string a1] rfl (by (try simp only [List.map_toArray, List.map_cons, List.map_nil]); first | done | rfl | (simp only [List.length_drop, List.length_take]; rfl)) ?_; (with_reducible refine (strings_Contains.calls (rdOf ByteArray.empty l0 x22_2) a1 false _ A9.out).mono ?_); rintro e w12 ⟨rfl, hb⟩; refine ⟨_, rfl, ?_⟩; have n0_ := Aside0.mk (below_step (by repeat (first | (with_reducible first | exact HB.out | apply below_alloc | apply pw_below_drewN | apply below_drew1) | exact HB.out)) hb); clear HB; have HB := n0_; clear n0_; (try clear hb); (try clear hb2); (try clear hk); (try clear hi)))
                    go_roundg k2
                    case measure => have := HJ2.out; have := HK2.out; omega
                    case rel => exact ⟨(wrap64 (x6_2 + ((rdOf ByteArray.empty l0 x22_2).size : Int))), (wrap64 (x22_2 + 1)), (by first | rfl | (simp; done) | (simp [*]; done)), (by first | rfl | (simp; done) | (simp [*]; done)), H', ⟨by have := HJ2.out; have := HK2.out; omega⟩, ⟨by repeat (first | (with_reducible first | exact HB.out | apply below_alloc | apply pw_below_drewN | apply below_drew1) | exact HB.out)⟩⟩
                · rw [if_neg c8] at H
                  exact absurd H (by simp)
              · rw [if_neg c7] at H
                exact absurd H (by simp)
            · rw [if_neg c6] at H
              have c6b0 : decide (x22_2 < (l0.length : Int)) = false := decide_eq_false c6
              clear c6
              by_cases c13 : x6_2 > 4000
              · rw [if_pos c13] at H
                have c13b0 : decide (4000 < x6_2) = true := decide_eq_true c13
                clear c13
                simp only [Option.some.injEq, Prod.mk.injEq] at H
                obtain ⟨rfl, rfl⟩ := H
                go_wp2
                go_ret2
                exact ⟨by first | rfl | (simp [errW_none, errW_some] <;> rfl) | (simp [*, errW_none, errW_some] <;> rfl), by repeat (first | (with_reducible first | exact HB.out | apply below_alloc | apply pw_below_drewN | apply below_drew1) | exact HB.out)⟩
              · rw [if_neg c13] at H
                have c13b0 : decide (4000 < x6_2) = false := decide_eq_false c13
                clear c13
                replace H := Option.bind_eq_some_iff.mp H
                obtain ⟨t168, A140, H⟩ := H
                replace H : (some (t168, true)) = some (r1, r2) := H
                have A14 := Aside0.mk A140
                clear A140
                simp only [Option.some.injEq, Prod.mk.injEq] at H
                obtain ⟨rfl, rfl⟩ := H
                go_wp2_with (first | ((with_reducible refine gate_callee (f := 40) rfl ?_); refine goesL_ (some 38) rfl rfl Tryd.func40 (by kernel_rfl) rfl #[.slice A0 l0.length c0, .string a1] rfl (by (try simp only [List.map_toArray, List.map_cons, List.map_nil]); first | done | rfl | (simp only [List.length_drop, List.length_take]; rfl)) ?_; (with_reducible refine (strings_Join.calls _ _ l0 a1 t168 _ ?side1 ?side2 A14.out).mono ?_); (case side1 => repeat (first | exact (Kd.C_below HR0.out HB.out) | (with_reducible refine Kd.C_alloc ?_ _) | (with_reducible refine Kd.C_drewN ?_ _) | (with_reducible refine Kd.C_drew ?_))); (case side2 => exact HC0.out); rintro e w15 ⟨rfl, hb⟩; refine ⟨_, rfl, ?_⟩; have n0_ := Aside0.mk (below_step (by repeat (first | (with_reducible first | exact HB.out | apply below_alloc | apply pw_below_drewN | apply below_drew1) | exact HB.out)) hb); clear HB; have HB := n0_; clear n0_; (try clear hb); (try clear hb2); (try clear hk); (try clear hi)))
                go_ret2
                exact ⟨by first | rfl | (simp [errW_none, errW_some] <;> rfl) | (simp [*, errW_none, errW_some] <;> rfl), by repeat (first | (with_reducible first | exact HB.out | apply below_alloc | apply pw_below_drewN | apply below_drew1) | exact HB.out)⟩
def spec_l1Stands.l0 : Nat → ByteArray → Int → Int → Option (Bool)
  | 0, _, _, _ => none
  | k + 1, x0, x1, x5 => if x5 < (x0.size : Int) then (if 0 ≤ x5 then (if (bt x0 x5) = x1 then (some true) else (spec_l1Stands.l0 k x0 x1 (wrap64 (x5 + 1)))) else (none)) else (some false)
def spec_l1Stands.f (k : Nat) (a0 : ByteArray) (a1 : Int) : Option (Bool) := spec_l1Stands.l0 k a0 a1 0
set_option maxHeartbeats 8000000 in
set_option maxRecDepth 100000 in
theorem spec_l1Stands.calls (k : Nat) (a0 : ByteArray) (a1 : Int) (r : Bool) (w : World) (h : spec_l1Stands.f k a0 a1 = some r) :
    Calls Tryd.prog 41 #[.string a0, .int .u8 a1] w fun e w' => e = .returned (.bool r) ∧ Drawn0 w w' := by
  have H : (spec_l1Stands.l0 k a0 a1 0) = some r := h
  clear h
  have H' := Aside0.mk H
  clear H
  go_enter Tryd.func41, Tryd.ntmps41
  go_wp2
  go_loopg [5] k (fun kq v5 w' => ∃ (x5_1 : Int), v5 = .int .i64 x5_1 ∧ Aside0 (spec_l1Stands.l0 kq a0 a1 x5_1 = some r) ∧ Aside0 (kq ≤ k) ∧ Drawn0 w w')
  case atStart => exact ⟨(0), (by first | rfl | (simp; done) | (simp [*]; done)), H', ⟨Nat.le_refl _⟩, by repeat (first | exact Drawn0.refl _ | apply Drawn0.step)⟩
  case round =>
    clear H'
    try clear p2
    obtain ⟨x5_1, rfl, HA, HK1, ⟨m1, rfl⟩⟩ := hrel
    cases gk with
    | zero => exact absurd HA.out (by simp [spec_l1Stands.l0])
    | succ k1 =>
      have H := HA.out
      clear HA
      simp only [spec_l1Stands.l0] at H
      by_cases c3 : x5_1 < (a0.size : Int)
      · rw [if_pos c3] at H
        have c3b0 : decide (x5_1 < (a0.size : Int)) = true := decide_eq_true c3
        clear c3
        by_cases c4 : 0 ≤ x5_1
        · rw [if_pos c4] at H
          have c4b0 : decide (0 ≤ x5_1) = true := decide_eq_true c4
          clear c4
          by_cases c6 : (bt a0 x5_1) = a1
          · rw [if_pos c6] at H
            have c6b0 : ((bt a0 x5_1) == a1) = true := beq_iff_eq.mpr c6
            have c6b1 : ((bt a0 x5_1) != a1) = false := bne_eq_false_iff_eq.mpr c6
            clear c6
            obtain rfl := Option.some.inj H
            have p5 : 0 ≤ (x5_1 : Int) := of_decide_eq_true (by first | (with_reducible assumption) | assumption)
            have q5 : x5_1 < (a0.size : Int) := of_decide_eq_true (by first | (with_reducible assumption) | assumption)
            have hx5 := bt_at a0 x5_1
            replace p5 := eq_true p5
            replace q5 := eq_true q5
            go_wp2
            go_ret
            exact ⟨by first | rfl | (simp; done) | (simp [*]; done), by repeat (first | exact Drawn0.refl _ | apply Drawn0.step)⟩
          · rw [if_neg c6] at H
            have c6b0 : ((bt a0 x5_1) == a1) = false := beq_eq_false_iff_ne.mpr c6
            have c6b1 : ((bt a0 x5_1) != a1) = true := bne_iff_ne.mpr c6
            have H' := Aside0.mk H
            clear H
            have p5 : 0 ≤ (x5_1 : Int) := of_decide_eq_true (by first | (with_reducible assumption) | assumption)
            have q5 : x5_1 < (a0.size : Int) := of_decide_eq_true (by first | (with_reducible assumption) | assumption)
            have hx5 := bt_at a0 x5_1
            replace p5 := eq_true p5
            replace q5 := eq_true q5
            go_wp2
            go_roundg k1
            case measure => have := HK1.out; omega
            case rel => exact ⟨(wrap64 (x5_1 + 1)), (by first | rfl | (simp; done) | (simp [*]; done)), H', ⟨by have := HK1.out; omega⟩, by repeat (first | exact Drawn0.refl _ | apply Drawn0.step)⟩
        · rw [if_neg c4] at H
          exact absurd H (by simp)
      · rw [if_neg c3] at H
        have c3b0 : decide (x5_1 < (a0.size : Int)) = false := decide_eq_false c3
        clear c3
        obtain rfl := Option.some.inj H
        go_wp2
        go_ret
        exact ⟨by first | rfl | (simp; done) | (simp [*]; done), by repeat (first | exact Drawn0.refl _ | apply Drawn0.step)⟩
mutual
def spec_JoinStrings.j0 : Nat → List ByteArray → ByteArray → Bool → Option (ByteArray × Bool)
  | 0, _, _, _ => none
  | k + 1, x0, x1, x15 => if x15 = true then (some ((⟨#[]⟩ : ByteArray), false)) else (spec_JoinStrings.l0 k x0 x1 (⟨#[]⟩ : ByteArray) 0)
def spec_JoinStrings.l0 : Nat → List ByteArray → ByteArray → ByteArray → Int → Option (ByteArray × Bool)
  | 0, _, _, _, _ => none
  | k + 1, x0, x1, x6, x7 => if x7 < (x0.length : Int) then (if 0 ≤ x7 then (if 0 < (x1.size : Int) then ((spec_l1Stands.f k (rdOf ByteArray.empty x0 x7) (bt x1 0)).bind fun t170 => (if t170 = true then (some ((⟨#[]⟩ : ByteArray), false)) else (if x7 > 0 then (if x6.size + x1.size ≤ 9223372036854775807 then (if (x6 ++ x1).size + (rdOf ByteArray.empty x0 x7).size ≤ 9223372036854775807 then (if (((x6 ++ x1) ++ (rdOf ByteArray.empty x0 x7)).size : Int) > 4000 then (some ((⟨#[]⟩ : ByteArray), false)) else (spec_JoinStrings.l0 k x0 x1 ((x6 ++ x1) ++ (rdOf ByteArray.empty x0 x7)) (wrap64 (x7 + 1)))) else (none)) else (none)) else (if x6.size + (rdOf ByteArray.empty x0 x7).size ≤ 9223372036854775807 then (if ((x6 ++ (rdOf ByteArray.empty x0 x7)).size : Int) > 4000 then (some ((⟨#[]⟩ : ByteArray), false)) else (spec_JoinStrings.l0 k x0 x1 (x6 ++ (rdOf ByteArray.empty x0 x7)) (wrap64 (x7 + 1)))) else (none))))) else (none)) else (none)) else (some (x6, true))
end
def spec_JoinStrings.f (k : Nat) (l0 : List ByteArray) (a1 : ByteArray) : Option (ByteArray × Bool) := if (a1.size : Int) = 1 then (spec_JoinStrings.j0 k l0 a1 ((l0.length : Int) == 0)) else (spec_JoinStrings.j0 k l0 a1 true)
set_option maxHeartbeats 8000000 in
set_option maxRecDepth 100000 in
theorem spec_JoinStrings.calls (k : Nat) (A0 : Option Addr) (c0 : Nat) (l0 : List ByteArray) (a1 : ByteArray) (r1 : ByteArray) (r2 : Bool) (w : World) (hr0 : Kd.C Kd.string w A0 l0.length l0) (hc0 : l0.length ≤ c0) (h : spec_JoinStrings.f k l0 a1 = some (r1, r2)) :
    Calls Tryd.prog 14 #[.slice A0 l0.length c0, .string a1] w fun e w' => e = .returned (.tuple #[.string r1, .bool r2]) ∧ Drawn0 w w' := by
  have HR0 := Aside0.mk hr0
  have HC0 := Aside0.mk hc0
  clear hr0 hc0
  have H : (if (a1.size : Int) = 1 then (spec_JoinStrings.j0 k l0 a1 ((l0.length : Int) == 0)) else (spec_JoinStrings.j0 k l0 a1 true)) = some (r1, r2) := h
  clear h
  have HC3 := Aside0.mk H
  clear H
  go_enter Tryd.func14, Tryd.ntmps14
  go_upto_region 1 with (fail)
  repeat (go_quiet (fail); go_upto_region 1 with (fail))
  go_cut [15] (fun v15 wc => ∃ (kq : Nat) (x15_2 : Bool), v15 = .bool x15_2 ∧ Aside0 (spec_JoinStrings.j0 kq l0 a1 x15_2 = some (r1, r2)) ∧ Aside0 (kq ≤ k) ∧ Drawn0 w wc)
  case first =>
    have H := HC3.out
    clear HC3
    by_cases c4 : (a1.size : Int) = 1
    · rw [if_pos c4] at H
      have c4b0 : ((a1.size : Int) == 1) = true := beq_iff_eq.mpr c4
      have c4b1 : ((a1.size : Int) != 1) = false := bne_eq_false_iff_eq.mpr c4
      clear c4
      (first | rw [c4b0] | (simp only [i64_w, i32_w]; rw [c4b0]) | skip)
      have H' := Aside0.mk H
      clear H
      go_wp2
      repeat (go_quiet (fail); try go_wp2)
      go_meet
      case rel => exact ⟨_, (((l0.length : Int) == 0)), (by first | rfl | (simp; done) | (simp [*]; done)), H', ⟨by first | omega | exact Nat.le_refl _⟩, by repeat (first | exact Drawn0.refl _ | apply Drawn0.step)⟩
    · rw [if_neg c4] at H
      have c4b0 : ((a1.size : Int) == 1) = false := beq_eq_false_iff_ne.mpr c4
      have c4b1 : ((a1.size : Int) != 1) = true := bne_iff_ne.mpr c4
      (first | rw [c4b0] | (simp only [i64_w, i32_w]; rw [c4b0]) | skip)
      have H' := Aside0.mk H
      clear H
      go_wp2
      repeat (go_quiet (fail); try go_wp2)
      go_meet
      case rel => exact ⟨_, (true), (by first | rfl | (simp; done) | (simp [*]; done)), H', ⟨by first | omega | exact Nat.le_refl _⟩, by repeat (first | exact Drawn0.refl _ | apply Drawn0.step)⟩
  case rest =>
    clear HC3
    try clear c1
    try clear p2
    try clear c4
    try clear c4b0
    try clear c4b1
    obtain ⟨kq, x15_2, rfl, HA, HJ2, ⟨mc2, rfl⟩⟩ := hcut
    cases kq with
    | zero => exact absurd HA.out (by simp [spec_JoinStrings.j0])
    | succ kj2 =>
      have H := HA.out
      clear HA
      simp only [spec_JoinStrings.j0] at H
      by_cases c5 : x15_2 = true
      · subst c5
        have H1 : (some ((⟨#[]⟩ : ByteArray), false)) = some (r1, r2) := by rw [if_pos rfl] at H; exact H
        clear H
        have H := H1
        clear H1
        simp only [Option.some.injEq, Prod.mk.injEq] at H
        obtain ⟨rfl, rfl⟩ := H
        go_wp2
        repeat (go_quiet (fail); try go_wp2)
        go_ret2
        exact ⟨by first | rfl | (simp; done) | (simp [*]; done), by repeat (first | exact Drawn0.refl _ | apply Drawn0.step)⟩
      · replace c5 := Bool.eq_false_iff.mpr c5
        subst c5
        have H1 : (spec_JoinStrings.l0 kj2 l0 a1 (⟨#[]⟩ : ByteArray) 0) = some (r1, r2) := by rw [if_neg (show ¬ (false = true) by decide)] at H; exact H
        clear H
        have H := H1
        clear H1
        have H' := Aside0.mk H
        clear H
        go_wp2
        repeat (go_quiet (fail); try go_wp2)
        go_loopg [6, 7] kj2 (fun kq v6 v7 w' => ∃ (x6_2 : ByteArray) (x7_2 : Int), v6 = .string x6_2 ∧ v7 = .int .i64 x7_2 ∧ Aside0 (spec_JoinStrings.l0 kq l0 a1 x6_2 x7_2 = some (r1, r2)) ∧ Aside0 (kq ≤ kj2) ∧ Drawn0 w w')
        case atStart => exact ⟨((⟨#[]⟩ : ByteArray)), (0), (by first | rfl | (simp; done) | (simp [*]; done)), (by first | rfl | (simp; done) | (simp [*]; done)), H', ⟨Nat.le_refl _⟩, by repeat (first | exact Drawn0.refl _ | apply Drawn0.step)⟩
        case round =>
          clear H'
          try clear c1
          try clear c2
          try clear p2
          try clear c4
          try clear c4b0
          try clear c4b1
          try clear c5
          try clear p2
          obtain ⟨x6_2, x7_2, rfl, rfl, HA, HK2, ⟨m2, rfl⟩⟩ := hrel
          cases gk with
          | zero => exact absurd HA.out (by simp [spec_JoinStrings.l0])
          | succ k2 =>
            have H := HA.out
            clear HA
            simp only [spec_JoinStrings.l0] at H
            by_cases c6 : x7_2 < (l0.length : Int)
            · rw [if_pos c6] at H
              have c6b0 : decide (x7_2 < (l0.length : Int)) = true := decide_eq_true c6
              clear c6
              by_cases c7 : 0 ≤ x7_2
              · rw [if_pos c7] at H
                have c7b0 : decide (0 ≤ x7_2) = true := decide_eq_true c7
                clear c7
                by_cases c8 : 0 < (a1.size : Int)
                · rw [if_pos c8] at H
                  have c8b0 : decide (0 < (a1.size : Int)) = true := decide_eq_true c8
                  have c8b1 : decide (0 < a1.size) = true := decide_eq_true (by omega)
                  clear c8
                  replace H := Option.bind_eq_some_iff.mp H
                  obtain ⟨t170, A100, H⟩ := H
                  replace H : (if t170 = true then (some ((⟨#[]⟩ : ByteArray), false)) else (if x7_2 > 0 then (if x6_2.size + a1.size ≤ 9223372036854775807 then (if (x6_2 ++ a1).size + (rdOf ByteArray.empty l0 x7_2).size ≤ 9223372036854775807 then (if (((x6_2 ++ a1) ++ (rdOf ByteArray.empty l0 x7_2)).size : Int) > 4000 then (some ((⟨#[]⟩ : ByteArray), false)) else (spec_JoinStrings.l0 k2 l0 a1 ((x6_2 ++ a1) ++ (rdOf ByteArray.empty l0 x7_2)) (wrap64 (x7_2 + 1)))) else (none)) else (none)) else (if x6_2.size + (rdOf ByteArray.empty l0 x7_2).size ≤ 9223372036854775807 then (if ((x6_2 ++ (rdOf ByteArray.empty l0 x7_2)).size : Int) > 4000 then (some ((⟨#[]⟩ : ByteArray), false)) else (spec_JoinStrings.l0 k2 l0 a1 (x6_2 ++ (rdOf ByteArray.empty l0 x7_2)) (wrap64 (x7_2 + 1)))) else (none)))) = some (r1, r2) := H
                  have A10 := Aside0.mk A100
                  clear A100
                  by_cases c11 : t170 = true
                  · subst c11
                    have H1 : (some ((⟨#[]⟩ : ByteArray), false)) = some (r1, r2) := by rw [if_pos rfl] at H; exact H
                    clear H
                    have H := H1
                    clear H1
                    simp only [Option.some.injEq, Prod.mk.injEq] at H
                    obtain ⟨rfl, rfl⟩ := H
                    have p169 : 0 ≤ (x7_2 : Int) := of_decide_eq_true (by first | (with_reducible assumption) | assumption)
                    have q169 : x7_2 < (l0.length : Int) := of_decide_eq_true (by first | (with_reducible assumption) | assumption)
                    obtain ⟨ad169, e169, hx169_0⟩ := Kd.at_string HR0.out x7_2 p169 q169
                    cases e169
                    replace p169 := eq_true p169
                    replace q169 := eq_true q169
                    have p9 : 0 ≤ (0 : Int) := (by omega)
                    have q9 : 0 < a1.size := (by have : (0 : Int) < (a1.size : Int) := of_decide_eq_true (by first | (with_reducible assumption) | assumption); omega)
                    have hx9 : ∀ h : 0 < a1.size, ((a1[0]'h).toNat : Int) = bt a1 0 := bt_at a1 0
                    clear p9
                    have qi9 : (0 < (a1.size : Int)) = True := eq_true (of_decide_eq_true (by first | (with_reducible assumption) | assumption))
                    replace q9 := eq_true q9
                    go_wp2_with (first | (go_at_call 41; (with_reducible refine (spec_l1Stands.calls k2 (rdOf ByteArray.empty l0 x7_2) (bt a1 0) true _ A10.out).mono ?_); rintro e w' ⟨rfl, ⟨nd, rfl⟩⟩; (try first | exact ⟨rfl, _, World.drewN_drewN _ _ _⟩ | exact ⟨rfl, _, Eq.trans (World.drewN_drewN _ _ _) (congrArg (World.drewN _) (Nat.add_assoc _ _ _))⟩)))
                    repeat (go_quiet (first | (go_at_call 41; (with_reducible refine (spec_l1Stands.calls k2 (rdOf ByteArray.empty l0 x7_2) (bt a1 0) true _ A10.out).mono ?_); rintro e w' ⟨rfl, ⟨nd, rfl⟩⟩; (try first | exact ⟨rfl, _, World.drewN_drewN _ _ _⟩ | exact ⟨rfl, _, Eq.trans (World.drewN_drewN _ _ _) (congrArg (World.drewN _) (Nat.add_assoc _ _ _))⟩))); try go_wp2_with (first | (go_at_call 41; (with_reducible refine (spec_l1Stands.calls k2 (rdOf ByteArray.empty l0 x7_2) (bt a1 0) true _ A10.out).mono ?_); rintro e w' ⟨rfl, ⟨nd, rfl⟩⟩; (try first | exact ⟨rfl, _, World.drewN_drewN _ _ _⟩ | exact ⟨rfl, _, Eq.trans (World.drewN_drewN _ _ _) (congrArg (World.drewN _) (Nat.add_assoc _ _ _))⟩))))
                    go_ret2
                    exact ⟨by first | rfl | (simp; done) | (simp [*]; done), by repeat (first | exact Drawn0.refl _ | apply Drawn0.step)⟩
                  · replace c11 := Bool.eq_false_iff.mpr c11
                    subst c11
                    have H1 : (if x7_2 > 0 then (if x6_2.size + a1.size ≤ 9223372036854775807 then (if (x6_2 ++ a1).size + (rdOf ByteArray.empty l0 x7_2).size ≤ 9223372036854775807 then (if (((x6_2 ++ a1) ++ (rdOf ByteArray.empty l0 x7_2)).size : Int) > 4000 then (some ((⟨#[]⟩ : ByteArray), false)) else (spec_JoinStrings.l0 k2 l0 a1 ((x6_2 ++ a1) ++ (rdOf ByteArray.empty l0 x7_2)) (wrap64 (x7_2 + 1)))) else (none)) else (none)) else (if x6_2.size + (rdOf ByteArray.empty l0 x7_2).size ≤ 9223372036854775807 then (if ((x6_2 ++ (rdOf ByteArray.empty l0 x7_2)).size : Int) > 4000 then (some ((⟨#[]⟩ : ByteArray), false)) else (spec_JoinStrings.l0 k2 l0 a1 (x6_2 ++ (rdOf ByteArray.empty l0 x7_2)) (wrap64 (x7_2 + 1)))) else (none))) = some (r1, r2) := by rw [if_neg (show ¬ (false = true) by decide)] at H; exact H
                    clear H
                    have H := H1
                    clear H1
                    by_cases c12 : x7_2 > 0
                    · rw [if_pos c12] at H
                      have c12b0 : decide (0 < x7_2) = true := decide_eq_true c12
                      clear c12
                      by_cases c13 : x6_2.size + a1.size ≤ 9223372036854775807
                      · rw [if_pos c13] at H
                        have c13b0 := eq_true c13
                        have c13b1 : decide (x6_2.size + a1.size ≤ 9223372036854775807) = true := decide_eq_true c13
                        try have c13b2 : (9223372036854775807 < x6_2.size + a1.size) = False := eq_false (Nat.not_lt.2 c13)
                        by_cases c14 : (x6_2 ++ a1).size + (rdOf ByteArray.empty l0 x7_2).size ≤ 9223372036854775807
                        · rw [if_pos c14] at H
                          have c14b0 := eq_true c14
                          have c14b1 : decide ((x6_2 ++ a1).size + (rdOf ByteArray.empty l0 x7_2).size ≤ 9223372036854775807) = true := decide_eq_true c14
                          have c14b1z := c14b1
                          (try simp only [ByteArray.size_append, Int.natCast_add] at c14b1z)
                          (try simp only [show ∀ b_ : UInt8, (⟨#[b_]⟩ : ByteArray).size = 1 from fun _ => rfl, show ((1 : Nat) : Int) = 1 from rfl] at c14b1z)
                          try have c14b2 : (9223372036854775807 < (x6_2 ++ a1).size + (rdOf ByteArray.empty l0 x7_2).size) = False := eq_false (Nat.not_lt.2 c14)
                          (try (have c14b2z := c14b2; simp only [ByteArray.size_append, show ∀ b_ : UInt8, (⟨#[b_]⟩ : ByteArray).size = 1 from fun _ => rfl] at c14b2z))
                          by_cases c15 : (((x6_2 ++ a1) ++ (rdOf ByteArray.empty l0 x7_2)).size : Int) > 4000
                          · rw [if_pos c15] at H
                            have c15b0 : decide (4000 < (((x6_2 ++ a1) ++ (rdOf ByteArray.empty l0 x7_2)).size : Int)) = true := decide_eq_true c15
                            have c15b0z := c15b0
                            (try simp only [ByteArray.size_append, Int.natCast_add] at c15b0z)
                            (try simp only [show ∀ b_ : UInt8, (⟨#[b_]⟩ : ByteArray).size = 1 from fun _ => rfl, show ((1 : Nat) : Int) = 1 from rfl] at c15b0z)
                            have c15b1 : decide (4000 < ((x6_2 ++ a1) ++ (rdOf ByteArray.empty l0 x7_2)).size) = true := decide_eq_true (by omega)
                            have c15b1z := c15b1
                            (try simp only [ByteArray.size_append, Int.natCast_add] at c15b1z)
                            (try simp only [show ∀ b_ : UInt8, (⟨#[b_]⟩ : ByteArray).size = 1 from fun _ => rfl, show ((1 : Nat) : Int) = 1 from rfl] at c15b1z)
                            clear c15
                            simp only [Option.some.injEq, Prod.mk.injEq] at H
                            obtain ⟨rfl, rfl⟩ := H
                            have p169 : 0 ≤ (x7_2 : Int) := of_decide_eq_true (by first | (with_reducible assumption) | assumption)
                            have q169 : x7_2 < (l0.length : Int) := of_decide_eq_true (by first | (with_reducible assumption) | assumption)
                            obtain ⟨ad169, e169, hx169_0⟩ := Kd.at_string HR0.out x7_2 p169 q169
                            cases e169
                            replace p169 := eq_true p169
                            replace q169 := eq_true q169
                            have p9 : 0 ≤ (0 : Int) := (by omega)
                            have q9 : 0 < a1.size := (by have : (0 : Int) < (a1.size : Int) := of_decide_eq_true (by first | (with_reducible assumption) | assumption); omega)
                            have hx9 : ∀ h : 0 < a1.size, ((a1[0]'h).toNat : Int) = bt a1 0 := bt_at a1 0
                            clear p9
                            have qi9 : (0 < (a1.size : Int)) = True := eq_true (of_decide_eq_true (by first | (with_reducible assumption) | assumption))
                            replace q9 := eq_true q9
                            go_wp2_with (first | (go_at_call 41; (with_reducible refine (spec_l1Stands.calls k2 (rdOf ByteArray.empty l0 x7_2) (bt a1 0) false _ A10.out).mono ?_); rintro e w' ⟨rfl, ⟨nd, rfl⟩⟩; (try first | exact ⟨rfl, _, World.drewN_drewN _ _ _⟩ | exact ⟨rfl, _, Eq.trans (World.drewN_drewN _ _ _) (congrArg (World.drewN _) (Nat.add_assoc _ _ _))⟩); have p171 : 0 ≤ (x7_2 : Int) := of_decide_eq_true (by first | (with_reducible assumption) | assumption); have q171 : x7_2 < (l0.length : Int) := of_decide_eq_true (by first | (with_reducible assumption) | assumption); obtain ⟨ad171, e171, hx171_0⟩ := Kd.at_string HR0.out x7_2 p171 q171; obtain rfl : ad169 = ad171 := (by injection e171); replace p171 := eq_true p171; replace q171 := eq_true q171))
                            repeat (go_quiet (first | (go_at_call 41; (with_reducible refine (spec_l1Stands.calls k2 (rdOf ByteArray.empty l0 x7_2) (bt a1 0) false _ A10.out).mono ?_); rintro e w' ⟨rfl, ⟨nd, rfl⟩⟩; (try first | exact ⟨rfl, _, World.drewN_drewN _ _ _⟩ | exact ⟨rfl, _, Eq.trans (World.drewN_drewN _ _ _) (congrArg (World.drewN _) (Nat.add_assoc _ _ _))⟩); have p171 : 0 ≤ (x7_2 : Int) := of_decide_eq_true (by first | (with_reducible assumption) | assumption); have q171 : x7_2 < (l0.length : Int) := of_decide_eq_true (by first | (with_reducible assumption) | assumption); obtain ⟨ad171, e171, hx171_0⟩ := Kd.at_string HR0.out x7_2 p171 q171; obtain rfl : ad169 = ad171 := (by injection e171); replace p171 := eq_true p171; replace q171 := eq_true q171)); try go_wp2_with (first | (go_at_call 41; (with_reducible refine (spec_l1Stands.calls k2 (rdOf ByteArray.empty l0 x7_2) (bt a1 0) false _ A10.out).mono ?_); rintro e w' ⟨rfl, ⟨nd, rfl⟩⟩; (try first | exact ⟨rfl, _, World.drewN_drewN _ _ _⟩ | exact ⟨rfl, _, Eq.trans (World.drewN_drewN _ _ _) (congrArg (World.drewN _) (Nat.add_assoc _ _ _))⟩); have p171 : 0 ≤ (x7_2 : Int) := of_decide_eq_true (by first | (with_reducible assumption) | assumption); have q171 : x7_2 < (l0.length : Int) := of_decide_eq_true (by first | (with_reducible assumption) | assumption); obtain ⟨ad171, e171, hx171_0⟩ := Kd.at_string HR0.out x7_2 p171 q171; obtain rfl : ad169 = ad171 := (by injection e171); replace p171 := eq_true p171; replace q171 := eq_true q171)))
                            go_ret2
                            exact ⟨by first | rfl | (simp; done) | (simp [*]; done), by repeat (first | exact Drawn0.refl _ | apply Drawn0.step)⟩
                          · rw [if_neg c15] at H
                            have c15b0 : decide (4000 < (((x6_2 ++ a1) ++ (rdOf ByteArray.empty l0 x7_2)).size : Int)) = false := decide_eq_false c15
                            have c15b0z := c15b0
                            (try simp only [ByteArray.size_append, Int.natCast_add] at c15b0z)
                            (try simp only [show ∀ b_ : UInt8, (⟨#[b_]⟩ : ByteArray).size = 1 from fun _ => rfl, show ((1 : Nat) : Int) = 1 from rfl] at c15b0z)
                            have c15b1 : decide (4000 < ((x6_2 ++ a1) ++ (rdOf ByteArray.empty l0 x7_2)).size) = false := decide_eq_false (by omega)
                            have c15b1z := c15b1
                            (try simp only [ByteArray.size_append, Int.natCast_add] at c15b1z)
                            (try simp only [show ∀ b_ : UInt8, (⟨#[b_]⟩ : ByteArray).size = 1 from fun _ => rfl, show ((1 : Nat) : Int) = 1 from rfl] at c15b1z)
                            clear c15
                            have H' := Aside0.mk H
                            clear H
                            have p169 : 0 ≤ (x7_2 : Int) := of_decide_eq_true (by first | (with_reducible assumption) | assumption)
                            have q169 : x7_2 < (l0.length : Int) := of_decide_eq_true (by first | (with_reducible assumption) | assumption)
                            obtain ⟨ad169, e169, hx169_0⟩ := Kd.at_string HR0.out x7_2 p169 q169
                            cases e169
                            replace p169 := eq_true p169
                            replace q169 := eq_true q169
                            have p9 : 0 ≤ (0 : Int) := (by omega)
                            have q9 : 0 < a1.size := (by have : (0 : Int) < (a1.size : Int) := of_decide_eq_true (by first | (with_reducible assumption) | assumption); omega)
                            have hx9 : ∀ h : 0 < a1.size, ((a1[0]'h).toNat : Int) = bt a1 0 := bt_at a1 0
                            clear p9
                            have qi9 : (0 < (a1.size : Int)) = True := eq_true (of_decide_eq_true (by first | (with_reducible assumption) | assumption))
                            replace q9 := eq_true q9
                            go_wp2_with (first | (go_at_call 41; (with_reducible refine (spec_l1Stands.calls k2 (rdOf ByteArray.empty l0 x7_2) (bt a1 0) false _ A10.out).mono ?_); rintro e w' ⟨rfl, ⟨nd, rfl⟩⟩; (try first | exact ⟨rfl, _, World.drewN_drewN _ _ _⟩ | exact ⟨rfl, _, Eq.trans (World.drewN_drewN _ _ _) (congrArg (World.drewN _) (Nat.add_assoc _ _ _))⟩); have p171 : 0 ≤ (x7_2 : Int) := of_decide_eq_true (by first | (with_reducible assumption) | assumption); have q171 : x7_2 < (l0.length : Int) := of_decide_eq_true (by first | (with_reducible assumption) | assumption); obtain ⟨ad171, e171, hx171_0⟩ := Kd.at_string HR0.out x7_2 p171 q171; obtain rfl : ad169 = ad171 := (by injection e171); replace p171 := eq_true p171; replace q171 := eq_true q171))
                            repeat (go_quiet (first | (go_at_call 41; (with_reducible refine (spec_l1Stands.calls k2 (rdOf ByteArray.empty l0 x7_2) (bt a1 0) false _ A10.out).mono ?_); rintro e w' ⟨rfl, ⟨nd, rfl⟩⟩; (try first | exact ⟨rfl, _, World.drewN_drewN _ _ _⟩ | exact ⟨rfl, _, Eq.trans (World.drewN_drewN _ _ _) (congrArg (World.drewN _) (Nat.add_assoc _ _ _))⟩); have p171 : 0 ≤ (x7_2 : Int) := of_decide_eq_true (by first | (with_reducible assumption) | assumption); have q171 : x7_2 < (l0.length : Int) := of_decide_eq_true (by first | (with_reducible assumption) | assumption); obtain ⟨ad171, e171, hx171_0⟩ := Kd.at_string HR0.out x7_2 p171 q171; obtain rfl : ad169 = ad171 := (by injection e171); replace p171 := eq_true p171; replace q171 := eq_true q171)); try go_wp2_with (first | (go_at_call 41; (with_reducible refine (spec_l1Stands.calls k2 (rdOf ByteArray.empty l0 x7_2) (bt a1 0) false _ A10.out).mono ?_); rintro e w' ⟨rfl, ⟨nd, rfl⟩⟩; (try first | exact ⟨rfl, _, World.drewN_drewN _ _ _⟩ | exact ⟨rfl, _, Eq.trans (World.drewN_drewN _ _ _) (congrArg (World.drewN _) (Nat.add_assoc _ _ _))⟩); have p171 : 0 ≤ (x7_2 : Int) := of_decide_eq_true (by first | (with_reducible assumption) | assumption); have q171 : x7_2 < (l0.length : Int) := of_decide_eq_true (by first | (with_reducible assumption) | assumption); obtain ⟨ad171, e171, hx171_0⟩ := Kd.at_string HR0.out x7_2 p171 q171; obtain rfl : ad169 = ad171 := (by injection e171); replace p171 := eq_true p171; replace q171 := eq_true q171)))
                            go_roundg k2
                            case measure => have := HJ2.out; have := HK2.out; omega
                            case rel => exact ⟨((x6_2 ++ a1) ++ (rdOf ByteArray.empty l0 x7_2)), (wrap64 (x7_2 + 1)), (by first | rfl | (simp; done) | (simp [*]; done)), (by first | rfl | (simp; done) | (simp [*]; done)), H', ⟨by have := HJ2.out; have := HK2.out; omega⟩, by repeat (first | exact Drawn0.refl _ | apply Drawn0.step)⟩
                        · rw [if_neg c14] at H
                          exact absurd H (by simp)
                      · rw [if_neg c13] at H
                        exact absurd H (by simp)
                    · rw [if_neg c12] at H
                      have c12b0 : decide (0 < x7_2) = false := decide_eq_false c12
                      clear c12
                      by_cases c16 : x6_2.size + (rdOf ByteArray.empty l0 x7_2).size ≤ 9223372036854775807
                      · rw [if_pos c16] at H
                        have c16b0 := eq_true c16
                        have c16b1 : decide (x6_2.size + (rdOf ByteArray.empty l0 x7_2).size ≤ 9223372036854775807) = true := decide_eq_true c16
                        try have c16b2 : (9223372036854775807 < x6_2.size + (rdOf ByteArray.empty l0 x7_2).size) = False := eq_false (Nat.not_lt.2 c16)
                        by_cases c17 : ((x6_2 ++ (rdOf ByteArray.empty l0 x7_2)).size : Int) > 4000
                        · rw [if_pos c17] at H
                          have c17b0 : decide (4000 < ((x6_2 ++ (rdOf ByteArray.empty l0 x7_2)).size : Int)) = true := decide_eq_true c17
                          have c17b0z := c17b0
                          (try simp only [ByteArray.size_append, Int.natCast_add] at c17b0z)
                          (try simp only [show ∀ b_ : UInt8, (⟨#[b_]⟩ : ByteArray).size = 1 from fun _ => rfl, show ((1 : Nat) : Int) = 1 from rfl] at c17b0z)
                          have c17b1 : decide (4000 < (x6_2 ++ (rdOf ByteArray.empty l0 x7_2)).size) = true := decide_eq_true (by omega)
                          have c17b1z := c17b1
                          (try simp only [ByteArray.size_append, Int.natCast_add] at c17b1z)
                          (try simp only [show ∀ b_ : UInt8, (⟨#[b_]⟩ : ByteArray).size = 1 from fun _ => rfl, show ((1 : Nat) : Int) = 1 from rfl] at c17b1z)
                          clear c17
                          simp only [Option.some.injEq, Prod.mk.injEq] at H
                          obtain ⟨rfl, rfl⟩ := H
                          have p169 : 0 ≤ (x7_2 : Int) := of_decide_eq_true (by first | (with_reducible assumption) | assumption)
                          have q169 : x7_2 < (l0.length : Int) := of_decide_eq_true (by first | (with_reducible assumption) | assumption)
                          obtain ⟨ad169, e169, hx169_0⟩ := Kd.at_string HR0.out x7_2 p169 q169
                          cases e169
                          replace p169 := eq_true p169
                          replace q169 := eq_true q169
                          have p9 : 0 ≤ (0 : Int) := (by omega)
                          have q9 : 0 < a1.size := (by have : (0 : Int) < (a1.size : Int) := of_decide_eq_true (by first | (with_reducible assumption) | assumption); omega)
                          have hx9 : ∀ h : 0 < a1.size, ((a1[0]'h).toNat : Int) = bt a1 0 := bt_at a1 0
                          clear p9
                          have qi9 : (0 < (a1.size : Int)) = True := eq_true (of_decide_eq_true (by first | (with_reducible assumption) | assumption))
                          replace q9 := eq_true q9
                          go_wp2_with (first | (go_at_call 41; (with_reducible refine (spec_l1Stands.calls k2 (rdOf ByteArray.empty l0 x7_2) (bt a1 0) false _ A10.out).mono ?_); rintro e w' ⟨rfl, ⟨nd, rfl⟩⟩; (try first | exact ⟨rfl, _, World.drewN_drewN _ _ _⟩ | exact ⟨rfl, _, Eq.trans (World.drewN_drewN _ _ _) (congrArg (World.drewN _) (Nat.add_assoc _ _ _))⟩); have p172 : 0 ≤ (x7_2 : Int) := of_decide_eq_true (by first | (with_reducible assumption) | assumption); have q172 : x7_2 < (l0.length : Int) := of_decide_eq_true (by first | (with_reducible assumption) | assumption); obtain ⟨ad172, e172, hx172_0⟩ := Kd.at_string HR0.out x7_2 p172 q172; obtain rfl : ad169 = ad172 := (by injection e172); replace p172 := eq_true p172; replace q172 := eq_true q172))
                          repeat (go_quiet (first | (go_at_call 41; (with_reducible refine (spec_l1Stands.calls k2 (rdOf ByteArray.empty l0 x7_2) (bt a1 0) false _ A10.out).mono ?_); rintro e w' ⟨rfl, ⟨nd, rfl⟩⟩; (try first | exact ⟨rfl, _, World.drewN_drewN _ _ _⟩ | exact ⟨rfl, _, Eq.trans (World.drewN_drewN _ _ _) (congrArg (World.drewN _) (Nat.add_assoc _ _ _))⟩); have p172 : 0 ≤ (x7_2 : Int) := of_decide_eq_true (by first | (with_reducible assumption) | assumption); have q172 : x7_2 < (l0.length : Int) := of_decide_eq_true (by first | (with_reducible assumption) | assumption); obtain ⟨ad172, e172, hx172_0⟩ := Kd.at_string HR0.out x7_2 p172 q172; obtain rfl : ad169 = ad172 := (by injection e172); replace p172 := eq_true p172; replace q172 := eq_true q172)); try go_wp2_with (first | (go_at_call 41; (with_reducible refine (spec_l1Stands.calls k2 (rdOf ByteArray.empty l0 x7_2) (bt a1 0) false _ A10.out).mono ?_); rintro e w' ⟨rfl, ⟨nd, rfl⟩⟩; (try first | exact ⟨rfl, _, World.drewN_drewN _ _ _⟩ | exact ⟨rfl, _, Eq.trans (World.drewN_drewN _ _ _) (congrArg (World.drewN _) (Nat.add_assoc _ _ _))⟩); have p172 : 0 ≤ (x7_2 : Int) := of_decide_eq_true (by first | (with_reducible assumption) | assumption); have q172 : x7_2 < (l0.length : Int) := of_decide_eq_true (by first | (with_reducible assumption) | assumption); obtain ⟨ad172, e172, hx172_0⟩ := Kd.at_string HR0.out x7_2 p172 q172; obtain rfl : ad169 = ad172 := (by injection e172); replace p172 := eq_true p172; replace q172 := eq_true q172)))
                          go_ret2
                          exact ⟨by first | rfl | (simp; done) | (simp [*]; done), by repeat (first | exact Drawn0.refl _ | apply Drawn0.step)⟩
                        · rw [if_neg c17] at H
                          have c17b0 : decide (4000 < ((x6_2 ++ (rdOf ByteArray.empty l0 x7_2)).size : Int)) = false := decide_eq_false c17
                          have c17b0z := c17b0
                          (try simp only [ByteArray.size_append, Int.natCast_add] at c17b0z)
                          (try simp only [show ∀ b_ : UInt8, (⟨#[b_]⟩ : ByteArray).size = 1 from fun _ => rfl, show ((1 : Nat) : Int) = 1 from rfl] at c17b0z)
                          have c17b1 : decide (4000 < (x6_2 ++ (rdOf ByteArray.empty l0 x7_2)).size) = false := decide_eq_false (by omega)
                          have c17b1z := c17b1
                          (try simp only [ByteArray.size_append, Int.natCast_add] at c17b1z)
                          (try simp only [show ∀ b_ : UInt8, (⟨#[b_]⟩ : ByteArray).size = 1 from fun _ => rfl, show ((1 : Nat) : Int) = 1 from rfl] at c17b1z)
                          clear c17
                          have H' := Aside0.mk H
                          clear H
                          have p169 : 0 ≤ (x7_2 : Int) := of_decide_eq_true (by first | (with_reducible assumption) | assumption)
                          have q169 : x7_2 < (l0.length : Int) := of_decide_eq_true (by first | (with_reducible assumption) | assumption)
                          obtain ⟨ad169, e169, hx169_0⟩ := Kd.at_string HR0.out x7_2 p169 q169
                          cases e169
                          replace p169 := eq_true p169
                          replace q169 := eq_true q169
                          have p9 : 0 ≤ (0 : Int) := (by omega)
                          have q9 : 0 < a1.size := (by have : (0 : Int) < (a1.size : Int) := of_decide_eq_true (by first | (with_reducible assumption) | assumption); omega)
                          have hx9 : ∀ h : 0 < a1.size, ((a1[0]'h).toNat : Int) = bt a1 0 := bt_at a1 0
                          clear p9
                          have qi9 : (0 < (a1.size : Int)) = True := eq_true (of_decide_eq_true (by first | (with_reducible assumption) | assumption))
                          replace q9 := eq_true q9
                          go_wp2_with (first | (go_at_call 41; (with_reducible refine (spec_l1Stands.calls k2 (rdOf ByteArray.empty l0 x7_2) (bt a1 0) false _ A10.out).mono ?_); rintro e w' ⟨rfl, ⟨nd, rfl⟩⟩; (try first | exact ⟨rfl, _, World.drewN_drewN _ _ _⟩ | exact ⟨rfl, _, Eq.trans (World.drewN_drewN _ _ _) (congrArg (World.drewN _) (Nat.add_assoc _ _ _))⟩); have p172 : 0 ≤ (x7_2 : Int) := of_decide_eq_true (by first | (with_reducible assumption) | assumption); have q172 : x7_2 < (l0.length : Int) := of_decide_eq_true (by first | (with_reducible assumption) | assumption); obtain ⟨ad172, e172, hx172_0⟩ := Kd.at_string HR0.out x7_2 p172 q172; obtain rfl : ad169 = ad172 := (by injection e172); replace p172 := eq_true p172; replace q172 := eq_true q172))
                          repeat (go_quiet (first | (go_at_call 41; (with_reducible refine (spec_l1Stands.calls k2 (rdOf ByteArray.empty l0 x7_2) (bt a1 0) false _ A10.out).mono ?_); rintro e w' ⟨rfl, ⟨nd, rfl⟩⟩; (try first | exact ⟨rfl, _, World.drewN_drewN _ _ _⟩ | exact ⟨rfl, _, Eq.trans (World.drewN_drewN _ _ _) (congrArg (World.drewN _) (Nat.add_assoc _ _ _))⟩); have p172 : 0 ≤ (x7_2 : Int) := of_decide_eq_true (by first | (with_reducible assumption) | assumption); have q172 : x7_2 < (l0.length : Int) := of_decide_eq_true (by first | (with_reducible assumption) | assumption); obtain ⟨ad172, e172, hx172_0⟩ := Kd.at_string HR0.out x7_2 p172 q172; obtain rfl : ad169 = ad172 := (by injection e172); replace p172 := eq_true p172; replace q172 := eq_true q172)); try go_wp2_with (first | (go_at_call 41; (with_reducible refine (spec_l1Stands.calls k2 (rdOf ByteArray.empty l0 x7_2) (bt a1 0) false _ A10.out).mono ?_); rintro e w' ⟨rfl, ⟨nd, rfl⟩⟩; (try first | exact ⟨rfl, _, World.drewN_drewN _ _ _⟩ | exact ⟨rfl, _, Eq.trans (World.drewN_drewN _ _ _) (congrArg (World.drewN _) (Nat.add_assoc _ _ _))⟩); have p172 : 0 ≤ (x7_2 : Int) := of_decide_eq_true (by first | (with_reducible assumption) | assumption); have q172 : x7_2 < (l0.length : Int) := of_decide_eq_true (by first | (with_reducible assumption) | assumption); obtain ⟨ad172, e172, hx172_0⟩ := Kd.at_string HR0.out x7_2 p172 q172; obtain rfl : ad169 = ad172 := (by injection e172); replace p172 := eq_true p172; replace q172 := eq_true q172)))
                          go_roundg k2
                          case measure => have := HJ2.out; have := HK2.out; omega
                          case rel => exact ⟨(x6_2 ++ (rdOf ByteArray.empty l0 x7_2)), (wrap64 (x7_2 + 1)), (by first | rfl | (simp; done) | (simp [*]; done)), (by first | rfl | (simp; done) | (simp [*]; done)), H', ⟨by have := HJ2.out; have := HK2.out; omega⟩, by repeat (first | exact Drawn0.refl _ | apply Drawn0.step)⟩
                      · rw [if_neg c16] at H
                        exact absurd H (by simp)
                · rw [if_neg c8] at H
                  exact absurd H (by simp)
              · rw [if_neg c7] at H
                exact absurd H (by simp)
            · rw [if_neg c6] at H
              have c6b0 : decide (x7_2 < (l0.length : Int)) = false := decide_eq_false c6
              clear c6
              simp only [Option.some.injEq, Prod.mk.injEq] at H
              obtain ⟨rfl, rfl⟩ := H
              go_wp2
              repeat (go_quiet (fail); try go_wp2)
              go_ret2
              exact ⟨by first | rfl | (simp; done) | (simp [*]; done), by repeat (first | exact Drawn0.refl _ | apply Drawn0.step)⟩
end Go.Proofs.YtklddfkhbhkhdaaDoor.Q
namespace Go.Proofs.YtklddfkhbhkhdaaDoor.Q
open Go.RowKit Go.Proofs.YtklddfkhbhkhdaaDoorW.PrintWords Go.Proofs.YtklddfkhbhkhdaaDoorW.PrintLast Go.Proofs.YtklddfkhbhkhdaaDoorW.PrintMore
set_option linter.unusedVariables false
theorem lit_strs (w : World) (xs : List ByteArray) (n : Nat) (hn : xs.length = n) (hm : n ≤ 1000) : ∀ W, Below (w.heap.size + 1) (w.alloc (.cells (xs.map Value.string).toArray 9)) W → Kd.C Kd.string W (some ⟨w.heap.size, 0, none⟩) n xs := fun W hW => by
  subst hn
  have o := World.ownsRow_lit (e := 9) (size := 1) w (xs.map Value.string).toArray xs.length (Nat.le_refl _) (by unfold maxLen; omega) (by simp)
  have r : Kd.R Kd.string 9 (w.alloc (.cells (xs.map Value.string).toArray 9)) w.heap.size (fun _ => True) (.slice (some ⟨w.heap.size, 0, none⟩) xs.length xs.length) xs := R_of_owns (by simpa using o) (fun _ _ => trivial)
  have c := (Kd.R_reads' r).2.2
  exact Kd.C_below c (by simpa using hW)
theorem draw_start {w : World} {A0 : Option Addr} {c0 : Nat} {l0 : List Int} (h : Kd.C (Kd.int .u8) w A0 l0.length l0) : IsS48 w (w.alloc (.cells #[.slice A0 l0.length c0, .int .i64 0, .int .u64 0] 48)) w.heap.size l0 0 0 := ⟨A0, c0, heap_alloc_new w _, Nat.le_refl _, h⟩
def seps1 : List ByteArray := [⟨#[44]⟩, ⟨#[44]⟩, ⟨#[32]⟩, ⟨#[]⟩, ⟨#[44, 44]⟩]
def seps2 : List ByteArray := [⟨#[44]⟩, ⟨#[59]⟩, ⟨#[59]⟩, ⟨#[]⟩, ⟨#[97, 98]⟩]
def spec_DrawSplitString.f (l0 : List Int) : Option (ByteArray × ByteArray) := (spec_l1Cur_any1.f l0 0 0).bind fun t => (spec_l1Cur_of.f l0 t.2.1 t.2.2 seps1).bind fun u => some (t.1, u.1)
set_option maxHeartbeats 1000000 in
theorem spec_DrawSplitString.calls (A0 : Option Addr) (c0 : Nat) (l0 : List Int) (r1 r2 : ByteArray) (w : World) (hr0 : Kd.C (Kd.int .u8) w A0 l0.length l0) (hc0 : l0.length ≤ c0) (h : spec_DrawSplitString.f l0 = some (r1, r2)) :
    Calls Tryd.prog 10 #[.slice A0 l0.length c0] w fun e w' => e = .returned (.tuple #[.string r1, .string r2]) ∧ Below w.heap.size w w' := by
  unfold spec_DrawSplitString.f at h
  obtain ⟨⟨t1, s1, s2⟩, h1, h⟩ := Option.bind_eq_some_iff.1 h
  obtain ⟨⟨u1, s3, s4⟩, h2, h⟩ := Option.bind_eq_some_iff.1 h
  have h := Option.some.inj h
  injection h with e1 e2
  simp only at e1 e2 h2
  subst e1; subst e2
  have HI := Aside0.mk (draw_start (c0 := c0) hr0)
  have HB := Aside0.mk ((Below.refl w.heap.size w).alloc (Nat.le_refl _) (.cells #[.slice A0 l0.length c0, .int .i64 0, .int .u64 0] 48))
  have H1 := Aside0.mk h1
  have H2 := Aside0.mk h2
  clear h1 h2 hr0 hc0
  go_enter Tryd.func10, Tryd.ntmps10
  go_wp2_with (first
    | (go_at_call 34; refine (spec_l1Cur_any1.calls w.heap.size l0 0 0 t1 s1 s2 w _ HI.out HB.out H1.out).mono ?_; rintro e w1 ⟨rfl, hi, hb, hk⟩; have HI1 := Aside0.mk hi; have HB1 := Aside0.mk hb; have hlt := hi.lt; clear hi hb hk)
    | (go_at_call 35; have hC := lit_strs w1 seps1 5 rfl (by omega) _ (by simpa using Below.refl (w1.heap.size + 1) _); refine (spec_l1Cur_of.calls w.heap.size l0 s1 s2 _ 5 seps1 u1 s3 s4 w _ (HI1.out.alloc _) (HB1.out.alloc (by omega) _) hC (by decide) (fun ad e _ => by cases e; exact fun e => by simp at e; omega) H2.out).mono ?_; rintro e w2 ⟨rfl, hi, hb, hk⟩; have HB2 := Aside0.mk hb; clear hi hb hk hC))
  go_ret2
  exact ⟨rfl, HB2.out⟩
def spec_DrawLessString.f (l0 : List Int) : Option (ByteArray × ByteArray) := (spec_l1Cur_any1.f l0 0 0).bind fun t => (spec_l1Cur_any1.f l0 t.2.1 t.2.2).bind fun u => some (t.1, u.1)
set_option maxHeartbeats 1000000 in
theorem spec_DrawLessString.calls (A0 : Option Addr) (c0 : Nat) (l0 : List Int) (r1 r2 : ByteArray) (w : World) (hr0 : Kd.C (Kd.int .u8) w A0 l0.length l0) (hc0 : l0.length ≤ c0) (h : spec_DrawLessString.f l0 = some (r1, r2)) :
    Calls Tryd.prog 15 #[.slice A0 l0.length c0] w fun e w' => e = .returned (.tuple #[.string r1, .string r2]) ∧ Below w.heap.size w w' := by
  unfold spec_DrawLessString.f at h
  obtain ⟨⟨t1, s1, s2⟩, h1, h⟩ := Option.bind_eq_some_iff.1 h
  obtain ⟨⟨u1, s3, s4⟩, h2, h⟩ := Option.bind_eq_some_iff.1 h
  have h := Option.some.inj h
  injection h with e1 e2
  simp only at e1 e2 h2
  subst e1; subst e2
  have HI := Aside0.mk (draw_start (c0 := c0) hr0)
  have HB := Aside0.mk ((Below.refl w.heap.size w).alloc (Nat.le_refl _) (.cells #[.slice A0 l0.length c0, .int .i64 0, .int .u64 0] 48))
  have H1 := Aside0.mk h1
  have H2 := Aside0.mk h2
  clear h1 h2 hr0 hc0
  go_enter Tryd.func15, Tryd.ntmps15
  go_wp2_with (first
    | (go_at_call 34; refine (spec_l1Cur_any1.calls w.heap.size l0 0 0 t1 s1 s2 w (w.alloc (.cells #[.slice A0 l0.length c0, .int .i64 0, .int .u64 0] 48)) HI.out HB.out H1.out).mono ?_; rintro e w1 ⟨rfl, hi, hb, hk⟩; have HI1 := Aside0.mk hi; have HB1 := Aside0.mk hb; clear hi hb hk)
    | (go_at_call 34; refine (spec_l1Cur_any1.calls w.heap.size l0 s1 s2 u1 s3 s4 w _ HI1.out HB1.out H2.out).mono ?_; rintro e w2 ⟨rfl, hi, hb, hk⟩; have HB2 := Aside0.mk hb; clear hi hb hk))
  go_ret2
  exact ⟨rfl, HB2.out⟩
def moreJ (l0 : List Int) : Nat → Int → Int → List ByteArray → Option (List ByteArray × Int × Int)
  | 0, s1, s2, l => some (l, s1, s2)
  | n + 1, s1, s2, l => (spec_l1Cur_any1.f l0 s1 s2).bind fun t => moreJ l0 n t.2.1 t.2.2 (l ++ [t.1])
theorem moreJ_len (l0 : List Int) : ∀ (n : Nat) (s1 s2 : Int) (l : List ByteArray) (r : List ByteArray × Int × Int), moreJ l0 n s1 s2 l = some r → r.1.length = l.length + n
  | 0, s1, s2, l, r, h => by cases h; rfl
  | n + 1, s1, s2, l, r, h => by
    obtain ⟨t, h1, h2⟩ := Option.bind_eq_some_iff.1 h
    have := moreJ_len l0 n _ _ _ r h2
    simp at this
    omega
def zeros (n : Nat) : ByteArray := ⟨(List.replicate n 0).toArray⟩
theorem made_zero (n : Nat) : madeCells #[Value.int .u8 0] n = (List.replicate n (Value.int .u8 0)).toArray := by
  apply Array.ext
  · simp [size_madeCells]
  · intro i h1 h2
    simp [madeCells, Nat.mod_one]
theorem conv_zero (w : World) (n cap : Nat) : (convert 25 9 (.slice (some ⟨w.heap.size, 0, none⟩) n cap)).run Tryd.prog (w.alloc (.cells (madeCells #[.int .u8 0] n) 5)) = .ok (.string (zeros n)) (w.alloc (.cells (madeCells #[.int .u8 0] n) 5)) := by
  have h := run_convert_bytes_back (P := Tryd.prog) (w.alloc (.cells (madeCells #[.int .u8 0] n) 5)) 25 9 5 ⟨w.heap.size, 0, none⟩ cap (List.replicate n 0) Tryd.underlying25 Tryd.underlying5 Tryd.underlying9 (fun j hj => by
    rw [List.length_replicate] at hj
    simp only [List.getElem_replicate]
    have e : (⟨w.heap.size, 0, none⟩ : Addr).add j = ⟨w.heap.size, j, none⟩ := by simp [Addr.add]; omega
    have hh := heap_alloc_new w (.cells (madeCells #[.int .u8 0] n) 5)
    rw [made_zero] at hh ⊢
    rw [e]
    simp only [World.cell?]
    rw [hh]
    simp [hj])
  rw [List.length_replicate] at h
  exact h
theorem make_zero (n : Nat) (hn : n ≤ 5000) : ∀ W : World, (Instr.makeSlice 25 (.int .i64 (n : Int)) (.int .i64 (n : Int))).run Tryd.prog W = .ok (.slice (some ⟨W.heap.size, 0, none⟩) n n) (W.alloc (.cells (madeCells #[.int .u8 0] n) 5)) := fun W =>
  print_make_of (P := Tryd.prog) 25 5 (.int .u8 0) 1 Tryd.underlying25 (by kernel_rfl) rfl (by decide) n (by omega) W
def spec_DrawJoinStrings.f (l0 : List Int) : Option (List ByteArray × ByteArray) := (spec_l1Cur_pick.f l0 0 0 4).bind fun t => (moreJ l0 t.1.toNat t.2.1 t.2.2 []).bind fun u => (spec_l1Cur_one.f l0 u.2.1 u.2.2 20).bind fun v =>
  if t.1 ≤ 3 then (if v.1 = true then ((spec_l1Cur_pick.f l0 v.2.1 v.2.2 20).bind fun x => if 0 ≤ x.1 ∧ x.1 ≤ 19 then ((spec_l1Cur_of.f l0 x.2.1 x.2.2 seps2).bind fun y => some (u.1 ++ [zeros (3990 + x.1.toNat)], y.1)) else none)
  else ((spec_l1Cur_of.f l0 v.2.1 v.2.2 seps2).bind fun y => some (u.1, y.1))) else none
structure DJ (w W : World) (l0 : List Int) (s1 s2 : Int) (v : Value) (l : List ByteArray) : Prop where
  cur : IsS48 w W w.heap.size l0 s1 s2
  row : Kd.R Kd.string 9 W w.heap.size (fun k => k ≠ w.heap.size) v l
  below : Below w.heap.size w W
set_option maxHeartbeats 2000000 in
set_option maxRecDepth 100000 in
theorem spec_DrawJoinStrings.calls (A0 : Option Addr) (c0 : Nat) (l0 : List Int) (r1 : List ByteArray) (r2 : ByteArray) (w : World) (hr0 : Kd.C (Kd.int .u8) w A0 l0.length l0) (hc0 : l0.length ≤ c0) (h : spec_DrawJoinStrings.f l0 = some (r1, r2)) :
    Calls Tryd.prog 12 #[.slice A0 l0.length c0] w fun e w' => ∃ v0_ : Value, e = .returned (.tuple #[v0_, .string r2]) ∧ Kd.R Kd.string 9 w' w.heap.size (fun _ => True) v0_ r1 ∧ Below w.heap.size w w' := by
  unfold spec_DrawJoinStrings.f at h
  obtain ⟨⟨n, s1, s2⟩, h1, h⟩ := Option.bind_eq_some_iff.1 h
  obtain ⟨⟨l, s3, s4⟩, h2, h⟩ := Option.bind_eq_some_iff.1 h
  obtain ⟨⟨b, s5, s6⟩, h3, h⟩ := Option.bind_eq_some_iff.1 h
  simp only at h h2 h3
  by_cases hn : n ≤ 3
  case neg => rw [if_neg hn] at h; cases h
  rw [if_pos hn] at h
  have HI := Aside0.mk (draw_start (c0 := c0) hr0)
  have HB := Aside0.mk ((Below.refl w.heap.size w).alloc (Nat.le_refl _) (.cells #[.slice A0 l0.length c0, .int .i64 0, .int .u64 0] 48))
  have H1 := Aside0.mk h1
  have H2 := Aside0.mk h2
  have H3 := Aside0.mk h3
  have H4 := Aside0.mk h
  clear h1 h2 h3 h hr0 hc0
  go_enter Tryd.func12, Tryd.ntmps12
  go_wp2_with (go_at_call 37; refine (spec_l1Cur_pick.calls w.heap.size l0 0 0 4 n s1 s2 w _ (HI.out.alloc _) (HB.out.alloc (by simp) _) H1.out).mono ?_; rintro e w1 ⟨rfl, hi, hb, hk⟩; have HI1 := Aside0.mk hi; have HB1 := Aside0.mk hb; have HK1 := Aside0.mk hk; clear hi hb hk)
  have HD1 : Aside0 (DJ w w1 l0 s1 s2 (.slice (some ⟨w.heap.size + 1, 0, none⟩) 0 0) []) := ⟨⟨HI1.out, Kd.R_keep (R_of_owns (ok := fun k => k ≠ w.heap.size) (xs := []) ⟨by simp, .inr ⟨w.heap.size + 1, 0, #[], rfl, by omega, by have hh := heap_alloc_new (w.alloc (.cells #[.slice A0 l0.length c0, .int .i64 0, .int .u64 0] 48)) (.cells #[] 9); rw [World.size_alloc] at hh; exact hh, Nat.le_refl _, by unfold maxLen; omega, by simp, by simp⟩⟩ (fun k hk => by simp [Value.ownBlock] at hk; omega)) HK1.out (fun k hk => hk), HB1.out⟩⟩
  clear HI HB HK1 HI1 HB1 H1
  go_loopw [5, 7] (fun v i wr => ∃ (u : Value) (j : Nat) (l1 : List ByteArray) (s7 s8 : Int), u = v ∧ i = .int .i64 j ∧ j ≤ n.toNat ∧ l1.length = j ∧ Aside0 (DJ w wr l0 s7 s8 u l1) ∧ Aside0 (moreJ l0 (n.toNat - j) s7 s8 l1 = some (l, s3, s4))) (fun _ i _ => n.toNat - (intOf i).toNat)
  case atStart => exact ⟨_, 0, [], s1, s2, rfl, rfl, Nat.zero_le _, rfl, HD1, ⟨H2.out⟩⟩
  case round =>
    clear HD1 H2
    obtain ⟨u, j, l1, s7, s8, hu, rfl, hj, hlen, HD, HM⟩ := hrel
    subst hu
    by_cases hlt : (j : Int) < n
    · obtain ⟨m, hm⟩ : ∃ m, n.toNat - j = m + 1 := ⟨n.toNat - j - 1, by omega⟩
      have hmj := HM.out
      rw [hm] at hmj
      obtain ⟨⟨y, s9, s10⟩, ha, hmj2⟩ := Option.bind_eq_some_iff.1 hmj
      have HA := Aside0.mk ha
      have HM2 : Aside0 (moreJ l0 (n.toNat - (j + 1)) s9 s10 (l1 ++ [y]) = some (l, s3, s4)) := ⟨by rw [show n.toNat - (j + 1) = m by omega]; exact hmj2⟩
      clear hmj hmj2 ha hm
      have hwr : IntKind.i64.wrap ((j : Int) + 1) = ((j + 1 : Nat) : Int) := by rw [i64_w]; unfold wrap64; omega
      go_wp2_with (first
        | (go_at_call 34; refine (spec_l1Cur_any1.calls w.heap.size l0 s7 s8 y s9 s10 w _ HD.out.cur HD.out.below HA.out).mono ?_; rintro e w4 ⟨rfl, hi, hb, hk⟩; have HI4 := Aside0.mk hi; have HB4 := Aside0.mk hb; have HO4 := Aside0.mk (Kd.R_keep HD.out.row hk (fun k h => h)); clear hi hb hk)
        | (at_builtin; refine Kd.R_append Kd.string (w0 := w) w.heap.size rfl (.tmp 19) (.tmp 22) 29 9 (.string ⟨#[]⟩) 16 rfl Tryd.underlying29 info9 rfl (by decide) (by omega) u l1 y [.string y] (fun q => q ≠ w.heap.size) (fun _ => False) rfl rfl rfl (fun _ hk => hk.elim) (fun q hq => by have := HI4.out.lt; show q ≠ w.heap.size; omega) HO4.out HB4.out HB4.out.size (by omega) ?_; intro v1 w5 ho hb hg hat; have HI5 := Aside0.mk (HI4.out.grown hg (HI4.out.own_ne HO4.out (by decide))); have HO5 := Aside0.mk ho; have HB5 := Aside0.mk hb; clear ho hb hg hat))
      exact ⟨⟨_, j + 1, _, _, _, rfl, by go_num, by omega, by simp; omega, ⟨⟨HI5.out, HO5.out, HB5.out⟩⟩, HM2⟩, by simp [intOf]; omega⟩
    · have hm := HM.out
      rw [show n.toNat - j = 0 by omega] at hm
      simp only [moreJ, Option.some.injEq, Prod.mk.injEq] at hm
      obtain ⟨rfl, rfl, rfl⟩ := hm
      clear HM
      cases b with
      | false =>
        have h4 := H4.out
        rw [if_neg (by decide)] at h4
        obtain ⟨⟨y, s9, s10⟩, h5, h6⟩ := Option.bind_eq_some_iff.1 h4
        have h6 := Option.some.inj h6
        injection h6 with e1 e2
        simp only at e1 e2
        subst e1; subst e2
        have H5 := Aside0.mk h5
        clear h4 h5 H4
        go_wp2_with (first
          | (go_at_call 38; refine (spec_l1Cur_one.calls w.heap.size l0 s7 s8 20 false s5 s6 w _ HD.out.cur HD.out.below H3.out).mono ?_; rintro e w4 ⟨rfl, hi, hb, hk⟩; have HI4 := Aside0.mk hi; have HB4 := Aside0.mk hb; have HO4 := Aside0.mk (Kd.R_keep HD.out.row hk (fun k h => h)); have hl4 := hi.lt; clear hi hb hk)
          | (go_at_call 35; have hC := lit_strs w4 seps2 5 rfl (by omega) _ (by simpa using Below.refl (w4.heap.size + 1) _); refine (spec_l1Cur_of.calls w.heap.size l0 s5 s6 _ 5 seps2 y s9 s10 w _ (HI4.out.alloc _) (HB4.out.alloc (by omega) _) hC (by decide) (fun ad e _ => by cases e; exact fun e => by simp at e; omega) H5.out).mono ?_; rintro e w5 ⟨rfl, hi, hb, hk⟩; have HB5 := Aside0.mk hb; have HO5 := Aside0.mk (Kd.R_keep (Kd.R_alloc HO4.out _) hk (fun k h => h)); clear hi hb hk hC))
        go_ret2
        exact ⟨_, rfl, Kd.R_mono HO5.out (fun _ _ => trivial), HB5.out⟩
      | true =>
        have h4 := H4.out
        rw [if_pos rfl] at h4
        obtain ⟨⟨x, s9, s10⟩, h5, h6⟩ := Option.bind_eq_some_iff.1 h4
        simp only at h6
        by_cases hx : 0 ≤ x ∧ x ≤ 19
        case neg => rw [if_neg hx] at h6; cases h6
        rw [if_pos hx] at h6
        obtain ⟨⟨y, s11, s12⟩, h7, h6⟩ := Option.bind_eq_some_iff.1 h6
        have h6 := Option.some.inj h6
        injection h6 with e1 e2
        simp only at e1 e2
        subst e1; subst e2
        have H5 := Aside0.mk h5
        have H7 := Aside0.mk h7
        clear h4 h5 h7 H4
        obtain ⟨q, rfl⟩ : ∃ q : Nat, x = (q : Int) := ⟨x.toNat, by omega⟩
        have hwr : IntKind.i64.wrap (3990 + (q : Int)) = 3990 + (q : Int) := by rw [i64_w]; unfold wrap64; omega
        have hmk : ∀ W : World, (Instr.makeSlice 25 (.int .i64 (3990 + (q : Int))) (.int .i64 (3990 + (q : Int)))).run Tryd.prog W = .ok (.slice (some ⟨W.heap.size, 0, none⟩) (3990 + q) (3990 + q)) (W.alloc (.cells (madeCells #[.int .u8 0] (3990 + q)) 5)) := fun W => by rw [show (3990 + (q : Int)) = ((3990 + q : Nat) : Int) by omega]; exact make_zero (3990 + q) (by omega) W
        have hcv := fun W => conv_zero W (3990 + q) (3990 + q)
        obtain ⟨z, hz⟩ : ∃ z, z = zeros (3990 + q) := ⟨_, rfl⟩
        rw [← hz] at hcv
        have HZ := Aside0.mk hz
        clear hz hx
        go_wp2_with (first
          | (go_at_call 38; refine (spec_l1Cur_one.calls w.heap.size l0 s7 s8 20 true s5 s6 w _ HD.out.cur HD.out.below H3.out).mono ?_; rintro e w4 ⟨rfl, hi, hb, hk⟩; have HI4 := Aside0.mk hi; have HB4 := Aside0.mk hb; have HO4 := Aside0.mk (Kd.R_keep HD.out.row hk (fun k h => h)); clear hi hb hk)
          | (go_at_call 37; refine (spec_l1Cur_pick.calls w.heap.size l0 s5 s6 20 (q : Int) s9 s10 w _ HI4.out HB4.out H5.out).mono ?_; rintro e w6 ⟨rfl, hi, hb, hk⟩; have HI6 := Aside0.mk (hi.alloc (.cells (madeCells #[.int .u8 0] (3990 + q)) 5)); have HB6 := Aside0.mk (hb.alloc hb.size (.cells (madeCells #[.int .u8 0] (3990 + q)) 5)); have HO6 := Aside0.mk (Kd.R_alloc (Kd.R_keep HO4.out hk (fun k h => h)) (.cells (madeCells #[.int .u8 0] (3990 + q)) 5)); clear hi hb hk)
          | (at_builtin; refine Kd.R_append Kd.string (w0 := w) w.heap.size rfl (.tmp 26) (.tmp 32) 29 9 (.string ⟨#[]⟩) 16 rfl Tryd.underlying29 info9 rfl (by decide) (by omega) u l1 z [.string z] (fun q => q ≠ w.heap.size) (fun _ => False) rfl (congrArg (fun k => Value.slice (some ⟨k, 0, none⟩) 1 1) (World.size_alloc w6 (.cells (madeCells #[.int .u8 0] (3990 + q)) 5)).symm) rfl (fun _ hk => hk.elim) (fun q hq => by have := HI6.out.lt; show q ≠ w.heap.size; omega) HO6.out HB6.out HB6.out.size (by omega) ?_; intro v1 w7 ho hb hg hat; have HI7 := Aside0.mk (HI6.out.grown hg (HI6.out.own_ne HO6.out (by decide))); have HO7 := Aside0.mk ho; have HB7 := Aside0.mk hb; have hl7 := HI7.out.lt; clear ho hb hg hat)
          | (go_at_call 35; have hC := lit_strs w7 seps2 5 rfl (by omega) _ (by simpa using Below.refl (w7.heap.size + 1) _); refine (spec_l1Cur_of.calls w.heap.size l0 s9 s10 _ 5 seps2 y s11 s12 w _ (HI7.out.alloc _) (HB7.out.alloc (by omega) _) hC (by decide) (fun ad e _ => by cases e; exact fun e => by simp at e; omega) H7.out).mono ?_; rintro e w8 ⟨rfl, hi, hb, hk⟩; have HB8 := Aside0.mk hb; have HO8 := Aside0.mk (Kd.R_keep (Kd.R_alloc HO7.out _) hk (fun k h => h)); clear hi hb hk hC))
        go_ret2
        rw [Int.toNat_natCast, ← HZ.out]
        exact ⟨_, rfl, Kd.R_mono HO8.out (fun _ _ => trivial), HB8.out⟩
end Go.Proofs.YtklddfkhbhkhdaaDoor.Q
namespace Go.Proofs.YtklddfkhbhkhdaaDoor.Q
open Go.RowKit Go.Proofs.YtklddfkhbhkhdaaDoorW.PrintWords Go.Proofs.YtklddfkhbhkhdaaDoorW.PrintLast Go.Proofs.YtklddfkhbhkhdaaDoorW.PrintMore
attribute [local go_sem] run_field_156 run_field_157 isSome_setCell max2_int min2_int max_two min_two max_three min_three max_four min_four   -- for this text's walks alone
set_option linter.unusedVariables false
set_option linter.unusedSimpArgs false
def impl_LessString.f (a0 : ByteArray) (a1 : ByteArray) : Option (Bool) := some (Op.bytesLess a0.toList a1.toList)
set_option maxHeartbeats 8000000 in
set_option maxRecDepth 100000 in
theorem impl_LessString.calls (a0 : ByteArray) (a1 : ByteArray) (r : Bool) (w : World) (h : impl_LessString.f a0 a1 = some r) :
    Calls Tryd.prog 16 #[.string a0, .string a1] w fun e w' => e = .returned (.bool r) ∧ Drawn0 w w' := by
  have H : (some (Op.bytesLess a0.toList a1.toList)) = some r := h
  clear h
  obtain rfl := Option.some.inj H
  go_enter Tryd.func16, Tryd.ntmps16
  go_wp2
  go_ret
  exact ⟨by first | rfl | (simp; done) | (simp [*]; done), by repeat (first | exact Drawn0.refl _ | apply Drawn0.step)⟩
def spec_LessString.f (a0 : ByteArray) (a1 : ByteArray) : Option (Bool) := some (Op.bytesLess a0.toList a1.toList)
set_option maxHeartbeats 8000000 in
set_option maxRecDepth 100000 in
theorem spec_LessString.calls (a0 : ByteArray) (a1 : ByteArray) (r : Bool) (w : World) (h : spec_LessString.f a0 a1 = some r) :
    Calls Tryd.prog 17 #[.string a0, .string a1] w fun e w' => e = .returned (.bool r) ∧ Drawn0 w w' := by
  have H : (some (Op.bytesLess a0.toList a1.toList)) = some r := h
  clear h
  obtain rfl := Option.some.inj H
  go_enter Tryd.func17, Tryd.ntmps17
  go_wp2
  go_ret
  exact ⟨by first | rfl | (simp; done) | (simp [*]; done), by repeat (first | exact Drawn0.refl _ | apply Drawn0.step)⟩
def laws_FnSplitJoin.j0 : Nat → ByteArray → ByteArray → List ByteArray → Bool → Bool → Option (Bool)
  | 0, _, _, _, _, _ => none
  | k + 1, x3, x4, x5, x6, x78 => if x78 = true then (some false) else (if (x4.size : Int) = 1 then ((impl_JoinStrings.f k x5 x4).bind fun bt194 => (if x6 = true then (if bt194.2 = true then (some (bt194.1.toList == x3.toList)) else (some false)) else (some false))) else (if x6 = true then (some false) else (some ((x5.length : Int) == 0))))
def laws_FnSplitJoin.f (k : Nat) (l0 : List Int) : Option (Bool) := (laws_vBig.f l0).bind fun t173 => (if t173 = true then (some true) else ((spec_DrawSplitString.f l0).bind fun bt174 => ((impl_SplitString.f bt174.1 bt174.2).bind fun bt176 => ((spec_DrawJoinStrings.f l0).bind fun bt180 => ((impl_JoinStrings.f k bt180.1 bt180.2).bind fun bt184 => ((spec_JoinStrings.f k bt180.1 bt180.2).bind fun bt186 => ((spec_DrawLessString.f l0).bind fun bt188 => (if bt184.1.toList = bt186.1.toList then (if (bt184.2 != bt186.2) = true then (laws_FnSplitJoin.j0 k bt174.1 bt174.2 bt176.1 bt176.2 true) else ((impl_LessString.f bt188.1 bt188.2).bind fun t190 => ((spec_LessString.f bt188.1 bt188.2).bind fun t191 => (if (t190 != t191) = true then (laws_FnSplitJoin.j0 k bt174.1 bt174.2 bt176.1 bt176.2 true) else ((impl_LessString.f bt188.1 bt188.2).bind fun t192 => (if t192 = true then ((impl_LessString.f bt188.2 bt188.1).bind fun t193 => (laws_FnSplitJoin.j0 k bt174.1 bt174.2 bt176.1 bt176.2 t193)) else (laws_FnSplitJoin.j0 k bt174.1 bt174.2 bt176.1 bt176.2 false))))))) else (laws_FnSplitJoin.j0 k bt174.1 bt174.2 bt176.1 bt176.2 true)))))))))
set_option maxHeartbeats 8000000 in
set_option maxRecDepth 100000 in
theorem laws_FnSplitJoin.calls (k : Nat) (A0 : Option Addr) (c0 : Nat) (l0 : List Int) (r : Bool) (w : World) (hr0 : Kd.C (Kd.int .u8) w A0 l0.length l0) (hc0 : l0.length ≤ c0) (h : laws_FnSplitJoin.f k l0 = some true) (hG_MaxIs : MaxIs w) :
    Calls Tryd.prog 4 #[.slice A0 l0.length c0] w fun e w' => e = .returned (.bool true) ∧ Below w.heap.size w w' := by
  have HG_MaxIs := Aside0.mk hG_MaxIs
  clear hG_MaxIs
  have HR0 := Aside0.mk hr0
  have HC0 := Aside0.mk hc0
  clear hr0 hc0
  have HB := Aside0.mk (Below.refl w.heap.size w)
  have H : ((laws_vBig.f l0).bind fun t173 => (if t173 = true then (some true) else ((spec_DrawSplitString.f l0).bind fun bt174 => ((impl_SplitString.f bt174.1 bt174.2).bind fun bt176 => ((spec_DrawJoinStrings.f l0).bind fun bt180 => ((impl_JoinStrings.f k bt180.1 bt180.2).bind fun bt184 => ((spec_JoinStrings.f k bt180.1 bt180.2).bind fun bt186 => ((spec_DrawLessString.f l0).bind fun bt188 => (if bt184.1.toList = bt186.1.toList then (if (bt184.2 != bt186.2) = true then (laws_FnSplitJoin.j0 k bt174.1 bt174.2 bt176.1 bt176.2 true) else ((impl_LessString.f bt188.1 bt188.2).bind fun t190 => ((spec_LessString.f bt188.1 bt188.2).bind fun t191 => (if (t190 != t191) = true then (laws_FnSplitJoin.j0 k bt174.1 bt174.2 bt176.1 bt176.2 true) else ((impl_LessString.f bt188.1 bt188.2).bind fun t192 => (if t192 = true then ((impl_LessString.f bt188.2 bt188.1).bind fun t193 => (laws_FnSplitJoin.j0 k bt174.1 bt174.2 bt176.1 bt176.2 t193)) else (laws_FnSplitJoin.j0 k bt174.1 bt174.2 bt176.1 bt176.2 false))))))) else (laws_FnSplitJoin.j0 k bt174.1 bt174.2 bt176.1 bt176.2 true)))))))))) = some true := h
  clear h
  replace H := Option.bind_eq_some_iff.mp H
  obtain ⟨t173, A20, H⟩ := H
  replace H : (if t173 = true then (some true) else ((spec_DrawSplitString.f l0).bind fun bt174 => ((impl_SplitString.f bt174.1 bt174.2).bind fun bt176 => ((spec_DrawJoinStrings.f l0).bind fun bt180 => ((impl_JoinStrings.f k bt180.1 bt180.2).bind fun bt184 => ((spec_JoinStrings.f k bt180.1 bt180.2).bind fun bt186 => ((spec_DrawLessString.f l0).bind fun bt188 => (if bt184.1.toList = bt186.1.toList then (if (bt184.2 != bt186.2) = true then (laws_FnSplitJoin.j0 k bt174.1 bt174.2 bt176.1 bt176.2 true) else ((impl_LessString.f bt188.1 bt188.2).bind fun t190 => ((spec_LessString.f bt188.1 bt188.2).bind fun t191 => (if (t190 != t191) = true then (laws_FnSplitJoin.j0 k bt174.1 bt174.2 bt176.1 bt176.2 true) else ((impl_LessString.f bt188.1 bt188.2).bind fun t192 => (if t192 = true then ((impl_LessString.f bt188.2 bt188.1).bind fun t193 => (laws_FnSplitJoin.j0 k bt174.1 bt174.2 bt176.1 bt176.2 t193)) else (laws_FnSplitJoin.j0 k bt174.1 bt174.2 bt176.1 bt176.2 false))))))) else (laws_FnSplitJoin.j0 k bt174.1 bt174.2 bt176.1 bt176.2 true))))))))) = some true := H
  have A2 := Aside0.mk A20
  clear A20
  by_cases c3 : t173 = true
  · subst c3
    have H1 : (some true) = some true := rfl
    clear H
    have H := H1
    clear H1
    (first | (obtain rfl := Option.some.inj H) | (have hH_ := Option.some.inj H; try simp only [hH_]))
    go_enter Tryd.func4, Tryd.ntmps4
    go_wp2_with (first | ((with_reducible refine gate_callee (f := 9) rfl ?_); refine goesL_ (some 18) rfl rfl Tryd.func9 (by kernel_rfl) rfl #[.slice A0 l0.length c0] rfl (by (try simp only [List.map_toArray, List.map_cons, List.map_nil]); first | done | rfl | (simp only [List.length_drop, List.length_take]; rfl)) ?_; (with_reducible refine (laws_vBig.calls _ _ l0 true _ ?side1 ?side2 A2.out).mono ?_); (case side1 => repeat (first | exact HR0.out | (with_reducible refine Kd.C_alloc ?_ _) | (with_reducible refine Kd.C_drewN ?_ _) | (with_reducible refine Kd.C_drew ?_))); (case side2 => exact HC0.out); rintro e w' ⟨rfl, ⟨nd, rfl⟩⟩; refine ⟨_, rfl, ?_⟩))
    go_ret
    exact ⟨by first | rfl | (simp [errW_none, errW_some] <;> rfl) | (simp [*, errW_none, errW_some] <;> rfl), by repeat (first | (with_reducible first | exact HB.out | apply below_alloc | apply pw_below_drewN | apply below_drew1) | exact HB.out)⟩
  · replace c3 := Bool.eq_false_iff.mpr c3
    subst c3
    have H1 : ((spec_DrawSplitString.f l0).bind fun bt174 => ((impl_SplitString.f bt174.1 bt174.2).bind fun bt176 => ((spec_DrawJoinStrings.f l0).bind fun bt180 => ((impl_JoinStrings.f k bt180.1 bt180.2).bind fun bt184 => ((spec_JoinStrings.f k bt180.1 bt180.2).bind fun bt186 => ((spec_DrawLessString.f l0).bind fun bt188 => (if bt184.1.toList = bt186.1.toList then (if (bt184.2 != bt186.2) = true then (laws_FnSplitJoin.j0 k bt174.1 bt174.2 bt176.1 bt176.2 true) else ((impl_LessString.f bt188.1 bt188.2).bind fun t190 => ((spec_LessString.f bt188.1 bt188.2).bind fun t191 => (if (t190 != t191) = true then (laws_FnSplitJoin.j0 k bt174.1 bt174.2 bt176.1 bt176.2 true) else ((impl_LessString.f bt188.1 bt188.2).bind fun t192 => (if t192 = true then ((impl_LessString.f bt188.2 bt188.1).bind fun t193 => (laws_FnSplitJoin.j0 k bt174.1 bt174.2 bt176.1 bt176.2 t193)) else (laws_FnSplitJoin.j0 k bt174.1 bt174.2 bt176.1 bt176.2 false))))))) else (laws_FnSplitJoin.j0 k bt174.1 bt174.2 bt176.1 bt176.2 true)))))))) = some true := by rw [if_neg (show ¬ (false = true) by decide)] at H; exact H
    clear H
    have H := H1
    clear H1
    replace H := Option.bind_eq_some_iff.mp H
    obtain ⟨⟨t174, t175⟩, A40, H⟩ := H
    replace H : ((impl_SplitString.f t174 t175).bind fun bt176 => ((spec_DrawJoinStrings.f l0).bind fun bt180 => ((impl_JoinStrings.f k bt180.1 bt180.2).bind fun bt184 => ((spec_JoinStrings.f k bt180.1 bt180.2).bind fun bt186 => ((spec_DrawLessString.f l0).bind fun bt188 => (if bt184.1.toList = bt186.1.toList then (if (bt184.2 != bt186.2) = true then (laws_FnSplitJoin.j0 k t174 t175 bt176.1 bt176.2 true) else ((impl_LessString.f bt188.1 bt188.2).bind fun t190 => ((spec_LessString.f bt188.1 bt188.2).bind fun t191 => (if (t190 != t191) = true then (laws_FnSplitJoin.j0 k t174 t175 bt176.1 bt176.2 true) else ((impl_LessString.f bt188.1 bt188.2).bind fun t192 => (if t192 = true then ((impl_LessString.f bt188.2 bt188.1).bind fun t193 => (laws_FnSplitJoin.j0 k t174 t175 bt176.1 bt176.2 t193)) else (laws_FnSplitJoin.j0 k t174 t175 bt176.1 bt176.2 false))))))) else (laws_FnSplitJoin.j0 k t174 t175 bt176.1 bt176.2 true))))))) = some true := H
    have A4 := Aside0.mk A40
    clear A40
    replace H := Option.bind_eq_some_iff.mp H
    obtain ⟨⟨t176, t177⟩, A50, H⟩ := H
    replace H : ((spec_DrawJoinStrings.f l0).bind fun bt180 => ((impl_JoinStrings.f k bt180.1 bt180.2).bind fun bt184 => ((spec_JoinStrings.f k bt180.1 bt180.2).bind fun bt186 => ((spec_DrawLessString.f l0).bind fun bt188 => (if bt184.1.toList = bt186.1.toList then (if (bt184.2 != bt186.2) = true then (laws_FnSplitJoin.j0 k t174 t175 t176 t177 true) else ((impl_LessString.f bt188.1 bt188.2).bind fun t190 => ((spec_LessString.f bt188.1 bt188.2).bind fun t191 => (if (t190 != t191) = true then (laws_FnSplitJoin.j0 k t174 t175 t176 t177 true) else ((impl_LessString.f bt188.1 bt188.2).bind fun t192 => (if t192 = true then ((impl_LessString.f bt188.2 bt188.1).bind fun t193 => (laws_FnSplitJoin.j0 k t174 t175 t176 t177 t193)) else (laws_FnSplitJoin.j0 k t174 t175 t176 t177 false))))))) else (laws_FnSplitJoin.j0 k t174 t175 t176 t177 true)))))) = some true := H
    have A5 := Aside0.mk A50
    clear A50
    replace H := Option.bind_eq_some_iff.mp H
    obtain ⟨⟨t180, t181⟩, A60, H⟩ := H
    replace H : ((impl_JoinStrings.f k t180 t181).bind fun bt184 => ((spec_JoinStrings.f k t180 t181).bind fun bt186 => ((spec_DrawLessString.f l0).bind fun bt188 => (if bt184.1.toList = bt186.1.toList then (if (bt184.2 != bt186.2) = true then (laws_FnSplitJoin.j0 k t174 t175 t176 t177 true) else ((impl_LessString.f bt188.1 bt188.2).bind fun t190 => ((spec_LessString.f bt188.1 bt188.2).bind fun t191 => (if (t190 != t191) = true then (laws_FnSplitJoin.j0 k t174 t175 t176 t177 true) else ((impl_LessString.f bt188.1 bt188.2).bind fun t192 => (if t192 = true then ((impl_LessString.f bt188.2 bt188.1).bind fun t193 => (laws_FnSplitJoin.j0 k t174 t175 t176 t177 t193)) else (laws_FnSplitJoin.j0 k t174 t175 t176 t177 false))))))) else (laws_FnSplitJoin.j0 k t174 t175 t176 t177 true))))) = some true := H
    have A6 := Aside0.mk A60
    clear A60
    replace H := Option.bind_eq_some_iff.mp H
    obtain ⟨⟨t184, t185⟩, A70, H⟩ := H
    replace H : ((spec_JoinStrings.f k t180 t181).bind fun bt186 => ((spec_DrawLessString.f l0).bind fun bt188 => (if t184.toList = bt186.1.toList then (if (t185 != bt186.2) = true then (laws_FnSplitJoin.j0 k t174 t175 t176 t177 true) else ((impl_LessString.f bt188.1 bt188.2).bind fun t190 => ((spec_LessString.f bt188.1 bt188.2).bind fun t191 => (if (t190 != t191) = true then (laws_FnSplitJoin.j0 k t174 t175 t176 t177 true) else ((impl_LessString.f bt188.1 bt188.2).bind fun t192 => (if t192 = true then ((impl_LessString.f bt188.2 bt188.1).bind fun t193 => (laws_FnSplitJoin.j0 k t174 t175 t176 t177 t193)) else (laws_FnSplitJoin.j0 k t174 t175 t176 t177 false))))))) else (laws_FnSplitJoin.j0 k t174 t175 t176 t177 true)))) = some true := H
    have A7 := Aside0.mk A70
    clear A70
    replace H := Option.bind_eq_some_iff.mp H
    obtain ⟨⟨t186, t187⟩, A80, H⟩ := H
    replace H : ((spec_DrawLessString.f l0).bind fun bt188 => (if t184.toList = t186.toList then (if (t185 != t187) = true then (laws_FnSplitJoin.j0 k t174 t175 t176 t177 true) else ((impl_LessString.f bt188.1 bt188.2).bind fun t190 => ((spec_LessString.f bt188.1 bt188.2).bind fun t191 => (if (t190 != t191) = true then (laws_FnSplitJoin.j0 k t174 t175 t176 t177 true) else ((impl_LessString.f bt188.1 bt188.2).bind fun t192 => (if t192 = true then ((impl_LessString.f bt188.2 bt188.1).bind fun t193 => (laws_FnSplitJoin.j0 k t174 t175 t176 t177 t193)) else (laws_FnSplitJoin.j0 k t174 t175 t176 t177 false))))))) else (laws_FnSplitJoin.j0 k t174 t175 t176 t177 true))) = some true := H
    have A8 := Aside0.mk A80
    clear A80
    replace H := Option.bind_eq_some_iff.mp H
    obtain ⟨⟨t188, t189⟩, A90, H⟩ := H
    replace H : (if t184.toList = t186.toList then (if (t185 != t187) = true then (laws_FnSplitJoin.j0 k t174 t175 t176 t177 true) else ((impl_LessString.f t188 t189).bind fun t190 => ((spec_LessString.f t188 t189).bind fun t191 => (if (t190 != t191) = true then (laws_FnSplitJoin.j0 k t174 t175 t176 t177 true) else ((impl_LessString.f t188 t189).bind fun t192 => (if t192 = true then ((impl_LessString.f t189 t188).bind fun t193 => (laws_FnSplitJoin.j0 k t174 t175 t176 t177 t193)) else (laws_FnSplitJoin.j0 k t174 t175 t176 t177 false))))))) else (laws_FnSplitJoin.j0 k t174 t175 t176 t177 true)) = some true := H
    have A9 := Aside0.mk A90
    clear A90
    have HC10 := Aside0.mk H
    clear H
    go_enter Tryd.func4, Tryd.ntmps4
    go_upto_region 9 with (first | ((with_reducible refine gate_callee (f := 9) rfl ?_); refine goesL_ (some 18) rfl rfl Tryd.func9 (by kernel_rfl) rfl #[.slice A0 l0.length c0] rfl (by (try simp only [List.map_toArray, List.map_cons, List.map_nil]); first | done | rfl | (simp only [List.length_drop, List.length_take]; rfl)) ?_; (with_reducible refine (laws_vBig.calls _ _ l0 false _ ?side1 ?side2 A2.out).mono ?_); (case side1 => repeat (first | exact HR0.out | (with_reducible refine Kd.C_alloc ?_ _) | (with_reducible refine Kd.C_drewN ?_ _) | (with_reducible refine Kd.C_drew ?_))); (case side2 => exact HC0.out); rintro e w' ⟨rfl, ⟨nd, rfl⟩⟩; refine ⟨_, rfl, ?_⟩) | ((with_reducible refine gate_callee (f := 10) rfl ?_); refine goesL_ (some 21) rfl rfl Tryd.func10 (by kernel_rfl) rfl #[.slice A0 l0.length c0] rfl (by (try simp only [List.map_toArray, List.map_cons, List.map_nil]); first | done | rfl | (simp only [List.length_drop, List.length_take]; rfl)) ?_; (with_reducible refine (spec_DrawSplitString.calls _ _ l0 t174 t175 _ ?side1 ?side2 A4.out).mono ?_); (case side1 => repeat (first | exact HR0.out | (with_reducible refine Kd.C_alloc ?_ _) | (with_reducible refine Kd.C_drewN ?_ _) | (with_reducible refine Kd.C_drew ?_))); (case side2 => exact HC0.out); rintro e w11 ⟨rfl, hb⟩; refine ⟨_, rfl, ?_⟩; have n0_ := Aside0.mk (below_step (by repeat (first | (with_reducible first | exact HB.out | apply below_alloc | apply pw_below_drewN | apply below_drew1) | exact HB.out)) hb); clear HB; have HB := n0_; clear n0_; (try clear hb); (try clear hb2); (try clear hk); (try clear hi)) | ((with_reducible refine gate_callee (f := 11) rfl ?_); refine goesL_ (some 27) rfl rfl Tryd.func11 (by kernel_rfl) rfl #[.string t174, .string t175] rfl (by (try simp only [List.map_toArray, List.map_cons, List.map_nil]); first | done | rfl | (simp only [List.length_drop, List.length_take]; rfl)) ?_; (with_reducible refine (impl_SplitString.calls t174 t175 t176 t177 _ A5.out (MaxIs.below HG_MaxIs.out (by repeat (first | (with_reducible first | exact HB.out | apply below_alloc | apply pw_below_drewN | apply below_drew1) | exact HB.out)))).mono ?_); rintro e w12 ⟨v178, rfl, ho0, hb⟩; refine ⟨_, rfl, ?_⟩; have n0_ := Aside0.mk (Kd.R_lower ho0 (below_size (by repeat (first | (with_reducible first | exact HB.out | apply below_alloc | apply pw_below_drewN | apply below_drew1) | exact HB.out)))); have n1_ := Aside0.mk (below_step (by repeat (first | (with_reducible first | exact HB.out | apply below_alloc | apply pw_below_drewN | apply below_drew1) | exact HB.out)) hb); clear HB; have HO179 := n0_; have HB := n1_; clear n0_ n1_; (try clear hb); (try clear hb2); (try clear hk); (try clear hi); (try clear ho0)) | ((with_reducible refine gate_callee (f := 12) rfl ?_); refine goesL_ (some 32) rfl rfl Tryd.func12 (by kernel_rfl) rfl #[.slice A0 l0.length c0] rfl (by (try simp only [List.map_toArray, List.map_cons, List.map_nil]); first | done | rfl | (simp only [List.length_drop, List.length_take]; rfl)) ?_; (with_reducible refine (spec_DrawJoinStrings.calls _ _ l0 t180 t181 _ ?side1 ?side2 A6.out).mono ?_); (case side1 => repeat (first | exact (Kd.C_below HR0.out HB.out) | (with_reducible refine Kd.C_alloc ?_ _) | (with_reducible refine Kd.C_drewN ?_ _) | (with_reducible refine Kd.C_drew ?_))); (case side2 => exact HC0.out); rintro e w13 ⟨v182, rfl, ho0, hb⟩; refine ⟨_, rfl, ?_⟩; have n0_ := Aside0.mk (Kd.R_elder' (by (with_reducible repeat (first | apply Kd.R_alloc | apply Kd.R_drewN | apply Kd.R_drew)); exact HO179.out) (Kd.R_base ho0) hb); have n1_ := Aside0.mk (Kd.R_lower (Kd.R_new' ho0 (Kd.R_lt (by (with_reducible repeat (first | apply Kd.R_alloc | apply Kd.R_drewN | apply Kd.R_drew)); exact HO179.out))) (below_size (by repeat (first | (with_reducible first | exact HB.out | apply below_alloc | apply pw_below_drewN | apply below_drew1) | exact HB.out)))); have n2_ := Aside0.mk (below_step (by repeat (first | (with_reducible first | exact HB.out | apply below_alloc | apply pw_below_drewN | apply below_drew1) | exact HB.out)) hb); clear HO179; clear HB; have HO179 := n0_; have HO183 := n1_; have HB := n2_; clear n0_ n1_ n2_; (try clear hb); (try clear hb2); (try clear hk); (try clear hi); (try clear ho0); obtain ⟨Ao14, co14, eo14⟩ := Kd.R_slice HO183.out; subst eo14) | ((with_reducible refine gate_callee (f := 13) rfl ?_); refine goesL_ (some 38) rfl rfl Tryd.func13 (by kernel_rfl) rfl #[.slice Ao14 t180.length co14, .string t181] rfl (by (try simp only [List.map_toArray, List.map_cons, List.map_nil]); first | done | rfl | (simp only [List.length_drop, List.length_take]; rfl)) ?_; (with_reducible refine (impl_JoinStrings.calls k _ _ t180 t181 t184 t185 _ ?side1 ?side2 A7.out).mono ?_); (case side1 => repeat (first | exact (Kd.R_reads' HO183.out).2.2 | (with_reducible refine Kd.C_alloc ?_ _) | (with_reducible refine Kd.C_drewN ?_ _) | (with_reducible refine Kd.C_drew ?_))); (case side2 => exact (Kd.R_reads' HO183.out).2.1); rintro e w15 ⟨rfl, hb⟩; refine ⟨_, rfl, ?_⟩; have n0_ := Aside0.mk (Kd.R_below (by (with_reducible repeat (first | apply Kd.R_alloc | apply Kd.R_drewN | apply Kd.R_drew)); exact HO179.out) hb); have n1_ := Aside0.mk (Kd.R_below (by (with_reducible repeat (first | apply Kd.R_alloc | apply Kd.R_drewN | apply Kd.R_drew)); exact HO183.out) hb); have n2_ := Aside0.mk (below_step (by repeat (first | (with_reducible first | exact HB.out | apply below_alloc | apply pw_below_drewN | apply below_drew1) | exact HB.out)) hb); clear HO179; clear HO183; clear HB; have HO179 := n0_; have HO183 := n1_; have HB := n2_; clear n0_ n1_ n2_; (try clear hb); (try clear hb2); (try clear hk); (try clear hi)) | ((with_reducible refine gate_callee (f := 14) rfl ?_); refine goesL_ (some 44) rfl rfl Tryd.func14 (by kernel_rfl) rfl #[.slice Ao14 t180.length co14, .string t181] rfl (by (try simp only [List.map_toArray, List.map_cons, List.map_nil]); first | done | rfl | (simp only [List.length_drop, List.length_take]; rfl)) ?_; (with_reducible refine (spec_JoinStrings.calls k _ _ t180 t181 t186 t187 _ ?side1 ?side2 A8.out).mono ?_); (case side1 => repeat (first | exact (Kd.R_reads' HO183.out).2.2 | (with_reducible refine Kd.C_alloc ?_ _) | (with_reducible refine Kd.C_drewN ?_ _) | (with_reducible refine Kd.C_drew ?_))); (case side2 => exact (Kd.R_reads' HO183.out).2.1); rintro e w' ⟨rfl, ⟨nd, rfl⟩⟩; refine ⟨_, rfl, ?_⟩) | ((with_reducible refine gate_callee (f := 15) rfl ?_); refine goesL_ (some 49) rfl rfl Tryd.func15 (by kernel_rfl) rfl #[.slice A0 l0.length c0] rfl (by (try simp only [List.map_toArray, List.map_cons, List.map_nil]); first | done | rfl | (simp only [List.length_drop, List.length_take]; rfl)) ?_; (with_reducible refine (spec_DrawLessString.calls _ _ l0 t188 t189 _ ?side1 ?side2 A9.out).mono ?_); (case side1 => repeat (first | exact (Kd.C_below HR0.out (by repeat (first | (with_reducible first | exact HB.out | apply below_alloc | apply pw_below_drewN | apply below_drew1) | exact HB.out))) | (with_reducible refine Kd.C_alloc ?_ _) | (with_reducible refine Kd.C_drewN ?_ _) | (with_reducible refine Kd.C_drew ?_))); (case side2 => exact HC0.out); rintro e w16 ⟨rfl, hb⟩; refine ⟨_, rfl, ?_⟩; have n0_ := Aside0.mk (Kd.R_below (by (with_reducible repeat (first | apply Kd.R_alloc | apply Kd.R_drewN | apply Kd.R_drew)); exact HO179.out) hb); have n1_ := Aside0.mk (Kd.R_below (by (with_reducible repeat (first | apply Kd.R_alloc | apply Kd.R_drewN | apply Kd.R_drew)); exact HO183.out) hb); have n2_ := Aside0.mk (below_step (by repeat (first | (with_reducible first | exact HB.out | apply below_alloc | apply pw_below_drewN | apply below_drew1) | exact HB.out)) hb); clear HO179; clear HO183; clear HB; have HO179 := n0_; have HO183 := n1_; have HB := n2_; clear n0_ n1_ n2_; (try clear hb); (try clear hb2); (try clear hk); (try clear hi)))
    (try simp only [Act.put, List.setIfInBounds_toArray, List.set_cons_zero, List.set_cons_succ])
    go_cut [78] (fun v78 wc => ∃ (kq : Nat) (x78_9 : Bool), v78 = .bool x78_9 ∧ Aside0 (laws_FnSplitJoin.j0 kq t174 t175 t176 t177 x78_9 = some true) ∧ Aside0 (kq ≤ k) ∧ Aside0 (Kd.R Kd.string 9 wc w.heap.size (fun _ => True) v178 t176) ∧ Aside0 (Below w.heap.size w wc))
    case first =>
      have H := HC10.out
      clear HC10
      by_cases c17 : t184.toList = t186.toList
      · rw [if_pos c17] at H
        have c17b0 : (t184.toList == t186.toList) = true := beq_iff_eq.mpr c17
        have c17b1 : (t184.toList != t186.toList) = false := bne_eq_false_iff_eq.mpr c17
        clear c17
        (first | rw [c17b0] | (simp only [i64_w, i32_w]; rw [c17b0]) | skip)
        by_cases c18 : (t185 != t187) = true
        · rw [if_pos c18] at H
          exact absurd H (by cases k <;> simp [laws_FnSplitJoin.j0])
        · rw [if_neg c18] at H
          have c18b0 : (t185 != t187) = false := by simpa using c18
          (try (have c18b1 : decide (t185 = t187) = true := by simpa using c18))
          (try (have c18b2 : (t185 == t187) = true := by simpa using c18))
          clear c18
          replace H := Option.bind_eq_some_iff.mp H
          obtain ⟨t190, A190, H⟩ := H
          replace H : ((spec_LessString.f t188 t189).bind fun t191 => (if (t190 != t191) = true then (laws_FnSplitJoin.j0 k t174 t175 t176 t177 true) else ((impl_LessString.f t188 t189).bind fun t192 => (if t192 = true then ((impl_LessString.f t189 t188).bind fun t193 => (laws_FnSplitJoin.j0 k t174 t175 t176 t177 t193)) else (laws_FnSplitJoin.j0 k t174 t175 t176 t177 false))))) = some true := H
          have A19 := Aside0.mk A190
          clear A190
          replace H := Option.bind_eq_some_iff.mp H
          obtain ⟨t191, A200, H⟩ := H
          replace H : (if (t190 != t191) = true then (laws_FnSplitJoin.j0 k t174 t175 t176 t177 true) else ((impl_LessString.f t188 t189).bind fun t192 => (if t192 = true then ((impl_LessString.f t189 t188).bind fun t193 => (laws_FnSplitJoin.j0 k t174 t175 t176 t177 t193)) else (laws_FnSplitJoin.j0 k t174 t175 t176 t177 false)))) = some true := H
          have A20 := Aside0.mk A200
          clear A200
          by_cases c21 : (t190 != t191) = true
          · rw [if_pos c21] at H
            exact absurd H (by cases k <;> simp [laws_FnSplitJoin.j0])
          · rw [if_neg c21] at H
            have c21b0 : (t190 != t191) = false := by simpa using c21
            (try (have c21b1 : decide (t190 = t191) = true := by simpa using c21))
            (try (have c21b2 : (t190 == t191) = true := by simpa using c21))
            clear c21
            replace H := Option.bind_eq_some_iff.mp H
            obtain ⟨t192, A220, H⟩ := H
            replace H : (if t192 = true then ((impl_LessString.f t189 t188).bind fun t193 => (laws_FnSplitJoin.j0 k t174 t175 t176 t177 t193)) else (laws_FnSplitJoin.j0 k t174 t175 t176 t177 false)) = some true := H
            have A22 := Aside0.mk A220
            have hsame_A22 : t190 = t192 := Option.some.inj (A19.out.symm.trans A22.out)
            (try have hsame2_A22 : t191 = t192 := (eq_of_beq c21b2).symm.trans hsame_A22)
            clear A220
            by_cases c23 : t192 = true
            · subst c23
              have H1 : ((impl_LessString.f t189 t188).bind fun t193 => (laws_FnSplitJoin.j0 k t174 t175 t176 t177 t193)) = some true := by rw [if_pos rfl] at H; exact H
              clear H
              have H := H1
              clear H1
              replace H := Option.bind_eq_some_iff.mp H
              obtain ⟨t193, A240, H⟩ := H
              replace H : (laws_FnSplitJoin.j0 k t174 t175 t176 t177 t193) = some true := H
              have A24 := Aside0.mk A240
              clear A240
              have H' := Aside0.mk H
              clear H
              go_wp2_with (first | (go_at_call 16; (with_reducible refine (impl_LessString.calls t188 t189 t190 _ A19.out).mono ?_); rintro e w' ⟨rfl, ⟨nd, rfl⟩⟩) | (go_at_call 17; (with_reducible refine (spec_LessString.calls t188 t189 t191 _ A20.out).mono ?_); rintro e w' ⟨rfl, ⟨nd, rfl⟩⟩) | (go_at_call 16; (with_reducible refine (impl_LessString.calls t188 t189 true _ A22.out).mono ?_); rintro e w' ⟨rfl, ⟨nd, rfl⟩⟩) | (go_at_call 16; (with_reducible refine (impl_LessString.calls t189 t188 t193 _ A24.out).mono ?_); rintro e w' ⟨rfl, ⟨nd, rfl⟩⟩))
              go_meet
              case rel => exact ⟨_, (t193), (by first | rfl | (simp; done) | (simp [*]; done)), H', ⟨by first | omega | exact Nat.le_refl _⟩, ⟨by (with_reducible repeat (first | apply Kd.R_alloc | apply Kd.R_drewN | apply Kd.R_drew)); exact Kd.R_mono HO179.out (fun _ hk => trivial)⟩, ⟨by repeat (first | (with_reducible first | exact HB.out | apply below_alloc | apply pw_below_drewN | apply below_drew1) | exact HB.out)⟩⟩
            · replace c23 := Bool.eq_false_iff.mpr c23
              subst c23
              have H1 : (laws_FnSplitJoin.j0 k t174 t175 t176 t177 false) = some true := by rw [if_neg (show ¬ (false = true) by decide)] at H; exact H
              clear H
              have H := H1
              clear H1
              have H' := Aside0.mk H
              clear H
              go_wp2_with (first | (go_at_call 16; (with_reducible refine (impl_LessString.calls t188 t189 t190 _ A19.out).mono ?_); rintro e w' ⟨rfl, ⟨nd, rfl⟩⟩) | (go_at_call 17; (with_reducible refine (spec_LessString.calls t188 t189 t191 _ A20.out).mono ?_); rintro e w' ⟨rfl, ⟨nd, rfl⟩⟩) | (go_at_call 16; (with_reducible refine (impl_LessString.calls t188 t189 false _ A22.out).mono ?_); rintro e w' ⟨rfl, ⟨nd, rfl⟩⟩))
              go_meet
              case rel => exact ⟨_, (false), (by first | rfl | (simp; done) | (simp [*]; done)), H', ⟨by first | omega | exact Nat.le_refl _⟩, ⟨by (with_reducible repeat (first | apply Kd.R_alloc | apply Kd.R_drewN | apply Kd.R_drew)); exact Kd.R_mono HO179.out (fun _ hk => trivial)⟩, ⟨by repeat (first | (with_reducible first | exact HB.out | apply below_alloc | apply pw_below_drewN | apply below_drew1) | exact HB.out)⟩⟩
      · rw [if_neg c17] at H
        exact absurd H (by cases k <;> simp [laws_FnSplitJoin.j0])
    case rest =>
      clear HC10
      try clear c1
      try clear c2
      try clear p2
      try clear c3
      try clear c4
      try clear c9
      try clear c10
      try clear c11
      try clear c12
      try clear c13
      try clear c14
      try clear c15
      try clear c17
      try clear c17b0
      try clear c17b1
      try clear c18
      try clear c18b0
      try clear c18b1
      try clear c18b2
      try clear c21
      try clear c21b0
      try clear c21b1
      try clear c21b2
      try clear c23
      obtain ⟨kq, x78_9, rfl, HA, HJ9, HO_5, HB⟩ := hcut
      cases kq with
      | zero => exact absurd HA.out (by simp [laws_FnSplitJoin.j0])
      | succ kj9 =>
        have H := HA.out
        clear HA
        simp only [laws_FnSplitJoin.j0] at H
        by_cases c25 : x78_9 = true
        · subst c25
          have H1 : (some false) = some true := by rw [if_pos rfl] at H; exact H
          exact absurd H1 (by simp)
        · replace c25 := Bool.eq_false_iff.mpr c25
          subst c25
          have H1 : (if (t175.size : Int) = 1 then ((impl_JoinStrings.f kj9 t176 t175).bind fun bt194 => (if t177 = true then (if bt194.2 = true then (some (bt194.1.toList == t174.toList)) else (some false)) else (some false))) else (if t177 = true then (some false) else (some ((t176.length : Int) == 0)))) = some true := by rw [if_neg (show ¬ (false = true) by decide)] at H; exact H
          clear H
          have H := H1
          clear H1
          by_cases c26 : (t175.size : Int) = 1
          · rw [if_pos c26] at H
            have c26b0 : ((t175.size : Int) == 1) = true := beq_iff_eq.mpr c26
            have c26b1 : ((t175.size : Int) != 1) = false := bne_eq_false_iff_eq.mpr c26
            clear c26
            replace H := Option.bind_eq_some_iff.mp H
            obtain ⟨⟨t194, t195⟩, A270, H⟩ := H
            replace H : (if t177 = true then (if t195 = true then (some (t194.toList == t174.toList)) else (some false)) else (some false)) = some true := H
            have A27 := Aside0.mk A270
            clear A270
            by_cases c28 : t177 = true
            · subst c28
              have H1 : (if t195 = true then (some (t194.toList == t174.toList)) else (some false)) = some true := by rw [if_pos rfl] at H; exact H
              clear H
              have H := H1
              clear H1
              by_cases c29 : t195 = true
              · subst c29
                have H1 : (some (t194.toList == t174.toList)) = some true := by rw [if_pos rfl] at H; exact H
                clear H
                have H := H1
                clear H1
                (first | (obtain rfl := Option.some.inj H) | (have hH_ := Option.some.inj H; try simp only [hH_]))
                obtain ⟨Ao30, co30, eo30⟩ := Kd.R_slice HO_5.out
                subst eo30
                go_wp2_with (first | ((with_reducible refine gate_callee (f := 13) rfl ?_); refine goesL_ (some 92) rfl rfl Tryd.func13 (by kernel_rfl) rfl #[.slice Ao30 t176.length co30, .string t175] rfl (by (try simp only [List.map_toArray, List.map_cons, List.map_nil]); first | done | rfl | (simp only [List.length_drop, List.length_take]; rfl)) ?_; (with_reducible refine (impl_JoinStrings.calls kj9 _ _ t176 t175 t194 true _ ?side1 ?side2 A27.out).mono ?_); (case side1 => repeat (first | exact (Kd.R_reads' HO_5.out).2.2 | (with_reducible refine Kd.C_alloc ?_ _) | (with_reducible refine Kd.C_drewN ?_ _) | (with_reducible refine Kd.C_drew ?_))); (case side2 => exact (Kd.R_reads' HO_5.out).2.1); rintro e w31 ⟨rfl, hb⟩; refine ⟨_, rfl, ?_⟩; have n0_ := Aside0.mk (Kd.R_below (by (with_reducible repeat (first | apply Kd.R_alloc | apply Kd.R_drewN | apply Kd.R_drew)); exact HO_5.out) hb); have n1_ := Aside0.mk (below_step (by repeat (first | (with_reducible first | exact HB.out | apply below_alloc | apply pw_below_drewN | apply below_drew1) | exact HB.out)) hb); clear HO_5; clear HB; have HO_5 := n0_; have HB := n1_; clear n0_ n1_; (try clear hb); (try clear hb2); (try clear hk); (try clear hi)))
                go_ret
                exact ⟨by first | rfl | (simp [errW_none, errW_some] <;> rfl) | (simp [*, errW_none, errW_some] <;> rfl), by repeat (first | (with_reducible first | exact HB.out | apply below_alloc | apply pw_below_drewN | apply below_drew1) | exact HB.out)⟩
              · replace c29 := Bool.eq_false_iff.mpr c29
                subst c29
                have H1 : (some false) = some true := by rw [if_neg (show ¬ (false = true) by decide)] at H; exact H
                exact absurd H1 (by simp)
            · replace c28 := Bool.eq_false_iff.mpr c28
              subst c28
              have H1 : (some false) = some true := by rw [if_neg (show ¬ (false = true) by decide)] at H; exact H
              exact absurd H1 (by simp)
          · rw [if_neg c26] at H
            have c26b0 : ((t175.size : Int) == 1) = false := beq_eq_false_iff_ne.mpr c26
            have c26b1 : ((t175.size : Int) != 1) = true := bne_iff_ne.mpr c26
            by_cases c36 : t177 = true
            · subst c36
              have H1 : (some false) = some true := by rw [if_pos rfl] at H; exact H
              exact absurd H1 (by simp)
            · replace c36 := Bool.eq_false_iff.mpr c36
              subst c36
              have H1 : (some ((t176.length : Int) == 0)) = some true := by rw [if_neg (show ¬ (false = true) by decide)] at H; exact H
              clear H
              have H := H1
              clear H1
              (first | (obtain rfl := Option.some.inj H) | (have hH_ := Option.some.inj H; try simp only [hH_]))
              obtain ⟨Ao37, co37, eo37⟩ := Kd.R_slice HO_5.out
              subst eo37
              go_wp2
              go_ret
              exact ⟨by first | rfl | (simp [errW_none, errW_some] <;> rfl) | (simp [*, errW_none, errW_some] <;> rfl), by repeat (first | (with_reducible first | exact HB.out | apply below_alloc | apply pw_below_drewN | apply below_drew1) | exact HB.out)⟩
end Go.Proofs.YtklddfkhbhkhdaaDoor.Q
namespace Go.Proofs.YtklddfkhbhkhdaaDoor.Q
open Go.RowKit Go.Proofs.YtklddfkhbhkhdaaDoorW.PrintWords Go.Proofs.YtklddfkhbhkhdaaDoorW.PrintLast
def Ev {α : Type} (F : Nat → Option α) (r : α) : Prop := ∃ K, ∀ k, K ≤ k → F k = some r
theorem Ev.pure {α : Type} (r : α) : Ev (fun _ => some r) r := ⟨0, fun _ _ => rfl⟩
theorem Ev.const {α : Type} {x : Option α} {r : α} (h : x = some r) : Ev (fun _ => x) r := ⟨0, fun _ _ => h⟩
theorem Ev.succ {α : Type} {F : Nat → Option α} {r : α} (h : Ev (fun k => F (k + 1)) r) : Ev F r := by
  obtain ⟨K, h⟩ := h
  refine ⟨K + 1, fun k hk => ?_⟩
  obtain ⟨j, rfl⟩ : ∃ j, k = j + 1 := ⟨k - 1, by omega⟩
  exact h j (by omega)
theorem Ev.bind {α β : Type} {F : Nat → Option α} {G : Nat → α → Option β} {t : α} {r : β} (h : Ev F t) (h2 : Ev (fun k => G k t) r) : Ev (fun k => (F k).bind (G k)) r := by
  obtain ⟨K, h⟩ := h
  obtain ⟨K2, h2⟩ := h2
  refine ⟨max K K2, fun k hk => ?_⟩
  simp only [h k (by omega), Option.bind_some]
  exact h2 k (by omega)
theorem Ev.bindc {α β : Type} {x : Option α} {G : Nat → α → Option β} {t : α} {r : β} (h : x = some t) (h2 : Ev (fun k => G k t) r) : Ev (fun k => x.bind (G k)) r := Ev.bind (Ev.const h) h2
theorem Ev.pos {α : Type} {c : Prop} [Decidable c] {F G : Nat → Option α} {r : α} (hc : c) (h : Ev F r) : Ev (fun k => if c then F k else G k) r := by simpa only [if_pos hc] using h
theorem Ev.neg {α : Type} {c : Prop} [Decidable c] {F G : Nat → Option α} {r : α} (hc : ¬ c) (h : Ev G r) : Ev (fun k => if c then F k else G k) r := by simpa only [if_neg hc] using h
theorem Ev.ex {α : Type} {F : Nat → Option α} {r : α} (h : Ev F r) : ∃ k, F k = some r := by obtain ⟨K, h⟩ := h; exact ⟨K, h K (Nat.le_refl _)⟩
theorem wnext (i : Nat) (h : i ≤ 4611686018427387904) : wrap64 ((i : Int) + 1) = ((i + 1 : Nat) : Int) := by unfold wrap64; omega
end Go.Proofs.YtklddfkhbhkhdaaDoor.Q
namespace Go.Proofs.YtklddfkhbhkhdaaDoor.Q
open Go.RowKit Go.Proofs.YtklddfkhbhkhdaaDoorW.PrintWords Go.Proofs.YtklddfkhbhkhdaaDoorW.PrintLast
set_option linter.unusedVariables false
theorem bits255 (x : Int) : 0 ≤ Go.bits .and .u64 x 255 ∧ Go.bits .and .u64 x 255 ≤ 255 := by
  have h : ((BitVec.ofInt IntKind.u64.bits x) &&& (BitVec.ofInt IntKind.u64.bits 255)).toNat ≤ 255 := by
    rw [BitVec.toNat_and]
    exact Nat.le_trans Nat.and_le_right (by decide)
  have e : Go.bits .and .u64 x 255 = IntKind.u64.wrap (((BitVec.ofInt IntKind.u64.bits x) &&& (BitVec.ofInt IntKind.u64.bits 255)).toNat : Int) := rfl
  rw [e]
  generalize ((BitVec.ofInt IntKind.u64.bits x) &&& (BitVec.ofInt IntKind.u64.bits 255)).toNat = n at h
  have e2 : IntKind.u64.wrap (n : Int) = (n : Int) := by
    have : IntKind.u64.wrap (n : Int) = (n : Int) % 18446744073709551616 := rfl
    rw [this]
    omega
  rw [e2]
  omega
def Bytes (l : List Int) : Prop := ∀ x ∈ l, 0 ≤ x ∧ x ≤ 255
theorem next_ok {l0 : List Int} (hb : Bytes l0) {s : Int} (h0 : 0 ≤ s) (h1 : s ≤ 1000000) (z : Int) : ∃ r z', spec_l1Cur_next.f l0 s z = some (r, s + 1, z') ∧ 0 ≤ r ∧ r ≤ 255 := by
  have ew : wrap64 (s + 1) = s + 1 := by unfold wrap64; omega
  unfold spec_l1Cur_next.f
  rw [ew]
  by_cases hl : s < (l0.length : Int)
  · have hrd : 0 ≤ rd l0 s ∧ rd l0 s ≤ 255 := by
      obtain ⟨n, rfl⟩ : ∃ n : Nat, s = (n : Int) := ⟨s.toNat, by omega⟩
      have hn : n < l0.length := by omega
      have e : rd l0 (n : Int) = l0[n] := by simp [rd, hn]
      rw [e]
      exact hb _ (List.getElem_mem hn)
    have e2 : wrap64 (rd l0 s) = rd l0 s := by unfold wrap64; omega
    rw [if_pos hl, if_pos h0, if_pos (show s + 1 ≤ (l0.length : Int) by omega), e2]
    exact ⟨_, _, rfl, hrd.1, hrd.2⟩
  · rw [if_neg hl, if_neg (show ¬ s + 1 ≤ (l0.length : Int) by omega)]
    have hh := bits255 (IntKind.u64.wrap ((IntKind.u64.wrap ((IntKind.u64.wrap (z * 6364136223846793005)) + 0)) + 462197) / 1099511627776)
    have e2 : ∀ q : Int, 0 ≤ q → q ≤ 255 → wrap64 q = q := fun q a b => by unfold wrap64; omega
    rw [e2 _ hh.1 hh.2]
    exact ⟨_, _, rfl, hh.1, hh.2⟩
theorem pick_ok {l0 : List Int} (hb : Bytes l0) {s : Int} (h0 : 0 ≤ s) (h1 : s ≤ 999000) (z n : Int) (hn : 1 ≤ n) (hn2 : n ≤ 2000) : ∃ r s' z', spec_l1Cur_pick.f l0 s z n = some (r, s', z') ∧ 0 ≤ r ∧ r < n ∧ 0 ≤ s' ∧ s' ≤ s + 2 := by
  unfold spec_l1Cur_pick.f
  by_cases h : n ≤ 1
  · rw [if_pos h]; exact ⟨0, s, z, rfl, by omega, by omega, h0, by omega⟩
  · rw [if_neg h]
    obtain ⟨r, z1, e1, r0, r1⟩ := next_ok hb h0 (by omega) z
    rw [e1, Option.bind_some]
    simp only
    by_cases h2 : n > 200
    · obtain ⟨q, z2, e2, q0, q1⟩ := next_ok hb (s := s + 1) (by omega) (by omega) z1
      rw [if_pos h2, e2, Option.bind_some, if_neg (by omega)]
      have ew : wrap64 (wrap64 (r * 256) + q) = r * 256 + q := by unfold wrap64; omega
      simp only [ew]
      refine ⟨_, _, _, rfl, ?_, ?_, by omega, by omega⟩
      · rw [Int.tmod_eq_emod_of_nonneg (by omega)]; exact Int.emod_nonneg _ (by omega)
      · rw [Int.tmod_eq_emod_of_nonneg (by omega)]; exact Int.emod_lt_of_pos _ (by omega)
    · rw [if_neg h2, if_neg (by omega)]
      refine ⟨_, _, _, rfl, ?_, ?_, by omega, by omega⟩
      · rw [Int.tmod_eq_emod_of_nonneg (by omega)]; exact Int.emod_nonneg _ (by omega)
      · rw [Int.tmod_eq_emod_of_nonneg (by omega)]; exact Int.emod_lt_of_pos _ (by omega)
theorem of_ok {l0 : List Int} (hb : Bytes l0) {s : Int} (h0 : 0 ≤ s) (h1 : s ≤ 999000) (z : Int) (l : List ByteArray) (hl : 1 ≤ l.length) (hl2 : l.length ≤ 2000) : ∃ r s' z', spec_l1Cur_of.f l0 s z l = some (r, s', z') ∧ r ∈ l ∧ 0 ≤ s' ∧ s' ≤ s + 2 := by
  obtain ⟨r, s', z', e, r0, r1, s0, s1⟩ := pick_ok hb h0 h1 z (l.length : Int) (by omega) (by omega)
  unfold spec_l1Cur_of.f
  rw [e, Option.bind_some]
  simp only
  rw [if_pos r0, if_pos r1]
  refine ⟨_, _, _, rfl, ?_, s0, s1⟩
  obtain ⟨n, rfl⟩ : ∃ n : Nat, r = (n : Int) := ⟨r.toNat, by omega⟩
  have hn : n < l.length := by omega
  have er : rdOf ByteArray.empty l (n : Int) = l[n] := by simp [rdOf, hn]
  rw [er]
  exact List.getElem_mem hn
def anys : List ByteArray := [(⟨#[]⟩ : ByteArray), (⟨#[97]⟩ : ByteArray), (⟨#[97, 44, 98]⟩ : ByteArray), (⟨#[115, 111, 109, 101, 32, 119, 111, 114, 100, 115]⟩ : ByteArray), (⟨#[120, 35, 121]⟩ : ByteArray), (⟨#[45, 49, 50]⟩ : ByteArray), (⟨#[0, 255]⟩ : ByteArray), (⟨#[44, 44]⟩ : ByteArray), (⟨#[48]⟩ : ByteArray)]
theorem any1_ok {l0 : List Int} (hb : Bytes l0) {s : Int} (h0 : 0 ≤ s) (h1 : s ≤ 999000) (z : Int) : ∃ r s' z', spec_l1Cur_any1.f l0 s z = some (r, s', z') ∧ r.size ≤ 10 ∧ 0 ≤ s' ∧ s' ≤ s + 2 := by
  obtain ⟨r, s', z', e, hm, s0, s1⟩ := of_ok hb h0 h1 z anys (by decide) (by decide)
  unfold spec_l1Cur_any1.f
  refine ⟨r, s', z', ?_, ?_, s0, s1⟩
  · show ((spec_l1Cur_of.f l0 s z anys).bind _) = _
    rw [e]
    rfl
  have : ∀ x ∈ anys, x.size ≤ 10 := by decide
  exact this r hm
theorem one_ok {l0 : List Int} (hb : Bytes l0) {s : Int} (h0 : 0 ≤ s) (h1 : s ≤ 999000) (z n : Int) (hn : 1 ≤ n) (hn2 : n ≤ 2000) : ∃ r s' z', spec_l1Cur_one.f l0 s z n = some (r, s', z') ∧ 0 ≤ s' ∧ s' ≤ s + 2 := by
  obtain ⟨r, s', z', e, r0, r1, s0, s1⟩ := pick_ok hb h0 h1 z n hn hn2
  unfold spec_l1Cur_one.f
  rw [e, Option.bind_some]
  exact ⟨_, _, _, rfl, s0, s1⟩
theorem drawSplit_ok {l0 : List Int} (hb : Bytes l0) : ∃ s sep, spec_DrawSplitString.f l0 = some (s, sep) ∧ s.size ≤ 10 := by
  obtain ⟨r, s', z', e, h10, s0, s1⟩ := any1_ok hb (s := 0) (by omega) (by omega) 0
  obtain ⟨q, s2, z2, e2, hm, s3, s4⟩ := of_ok hb s0 (by omega) z' seps1 (by decide) (by decide)
  unfold spec_DrawSplitString.f
  rw [e, Option.bind_some]
  simp only
  rw [e2, Option.bind_some]
  exact ⟨_, _, rfl, h10⟩
theorem drawLess_ok {l0 : List Int} (hb : Bytes l0) : ∃ a b, spec_DrawLessString.f l0 = some (a, b) := by
  obtain ⟨r, s', z', e, h10, s0, s1⟩ := any1_ok hb (s := 0) (by omega) (by omega) 0
  obtain ⟨q, s2, z2, e2, hm, s3, s4⟩ := any1_ok hb s0 (by omega) z'
  unfold spec_DrawLessString.f
  rw [e, Option.bind_some]
  simp only
  rw [e2, Option.bind_some]
  exact ⟨_, _, rfl⟩
theorem moreJ_ok {l0 : List Int} (hb : Bytes l0) : ∀ (n : Nat) (s z : Int) (l : List ByteArray), 0 ≤ s → s + 2 * n ≤ 990000 → (∀ x ∈ l, x.size ≤ 10) → ∃ l' s' z', moreJ l0 n s z l = some (l', s', z') ∧ (∀ x ∈ l', x.size ≤ 10) ∧ 0 ≤ s' ∧ s' ≤ s + 2 * n
  | 0, s, z, l, h0, h1, hl => ⟨l, s, z, rfl, hl, h0, by omega⟩
  | n + 1, s, z, l, h0, h1, hl => by
    obtain ⟨r, s', z', e, h10, s0, s1⟩ := any1_ok hb h0 (by omega) z
    obtain ⟨l', s2, z2, e2, hl2, s3, s4⟩ := moreJ_ok hb n s' z' (l ++ [r]) s0 (by omega) (fun x hx => by
      rcases List.mem_append.1 hx with hx | hx
      · exact hl x hx
      · rw [List.mem_singleton.1 hx]; exact h10)
    refine ⟨l', s2, z2, ?_, hl2, s3, by omega⟩
    rw [moreJ, e, Option.bind_some]
    exact e2
theorem zeros_size (n : Nat) : (zeros n).size = n := by simp [zeros, ByteArray.size]
theorem drawJoin_ok {l0 : List Int} (hb : Bytes l0) : ∃ l sep, spec_DrawJoinStrings.f l0 = some (l, sep) ∧ l.length ≤ 4 ∧ ∀ x ∈ l, x.size ≤ 5000 := by
  obtain ⟨n, s1, z1, e1, n0, n1, a0, a1⟩ := pick_ok hb (s := 0) (by omega) (by omega) 0 4 (by omega) (by omega)
  obtain ⟨l, s2, z2, e2, hl, b0, b1⟩ := moreJ_ok hb n.toNat s1 z1 [] a0 (by omega) (fun x hx => by cases hx)
  have hlen := moreJ_len l0 n.toNat s1 z1 [] _ e2
  simp only [List.length_nil] at hlen
  obtain ⟨b, s3, z3, e3, c0, c1⟩ := one_ok hb b0 (by omega) z2 20 (by omega) (by omega)
  unfold spec_DrawJoinStrings.f
  rw [e1, Option.bind_some]
  simp only
  rw [e2, Option.bind_some]
  simp only
  rw [e3, Option.bind_some]
  simp only
  rw [if_pos (show n ≤ 3 by omega)]
  cases b with
  | false =>
    obtain ⟨q, s4, z4, e4, hm, d0, d1⟩ := of_ok hb c0 (by omega) z3 seps2 (by decide) (by decide)
    rw [if_neg (by decide), e4, Option.bind_some]
    exact ⟨_, _, rfl, by omega, fun x hx => by have := hl x hx; omega⟩
  | true =>
    obtain ⟨m, s5, z5, e5, m0, m1, f0, f1⟩ := pick_ok hb c0 (by omega) z3 20 (by omega) (by omega)
    obtain ⟨q, s4, z4, e4, hm, d0, d1⟩ := of_ok hb f0 (by omega) z5 seps2 (by decide) (by decide)
    rw [if_pos rfl, e5, Option.bind_some]
    simp only
    rw [if_pos (show 0 ≤ m ∧ m ≤ 19 by omega), e4, Option.bind_some]
    refine ⟨_, _, rfl, by simp; omega, fun x hx => ?_⟩
    rcases List.mem_append.1 hx with hx | hx
    · have := hl x hx; omega
    · rw [List.mem_singleton.1 hx, zeros_size]; omega
end Go.Proofs.YtklddfkhbhkhdaaDoor.Q
namespace Go.Proofs.YtklddfkhbhkhdaaDoor.Q
open Go.RowKit Go.Proofs.YtklddfkhbhkhdaaDoorW.PrintWords Go.Proofs.YtklddfkhbhkhdaaDoorW.PrintLast
theorem rdS (l : List ByteArray) {i : Nat} (h : i < l.length) : rdOf ByteArray.empty l (i : Int) = l[i] := by simp [rdOf, h]
def sizes (l : List ByteArray) : Nat := (l.map ByteArray.size).sum
theorem sizes_cons (x : ByteArray) (l : List ByteArray) : sizes (x :: l) = x.size + sizes l := by simp [sizes]
theorem drop_at (l : List ByteArray) {i : Nat} (h : i < l.length) : l.drop i = l[i] :: l.drop (i + 1) := List.drop_eq_getElem_cons h
theorem lw_lenJ (b : ByteArray) : (lw b).length = b.size := by unfold lw; rw [Array.length_toList]; rfl
theorem bt_natJ (a : ByteArray) (i : Nat) (h : i < (lw a).length) : bt a (i : Int) = (((lw a)[i]'h).toNat : Int) := by
  have h2 : i < a.size := by rw [← lw_lenJ]; exact h
  have : ((i : Int)).toNat < a.size := by simpa using h2
  rw [← bt_at a (i : Int) this]
  rfl
theorem lw_appJ (a b : ByteArray) : lw (a ++ b) = lw a ++ lw b := by simp [lw]
theorem lw_injJ {a b : ByteArray} (h : lw a = lw b) : a = b := (show pw (lw a) = pw (lw b) by rw [h])
theorem st_l0 (x : ByteArray) (c : UInt8) (hx : x.size ≤ 140737488355328) : ∀ (n i : Nat), i + n = x.size → Ev (fun k => spec_l1Stands.l0 k x (c.toNat : Int) (i : Int)) (((lw x).drop i).contains c) := by
  intro n
  induction n with
  | zero =>
    intro i h
    have := lw_lenJ x
    refine Ev.succ ?_
    simp only [spec_l1Stands.l0]
    rw [List.drop_of_length_le (by omega)]
    exact Ev.neg (by omega) (Ev.pure _)
  | succ n ih =>
    intro i h
    have hl := lw_lenJ x
    have hi : i < (lw x).length := by omega
    have e2 := wnext i (by omega)
    have c1 : (i : Int) < (x.size : Int) := by omega
    have c2 : (0 : Int) ≤ (i : Int) := by omega
    have hq := ih (i + 1) (by omega)
    refine Ev.succ ?_
    simp only [spec_l1Stands.l0]
    rw [bt_natJ x i hi, e2, List.drop_eq_getElem_cons hi, List.contains_cons]
    by_cases e : (lw x)[i] = c
    · rw [e, beq_self_eq_true, Bool.true_or]
      exact Ev.pos c1 (Ev.pos c2 (Ev.pos rfl (Ev.pure _)))
    · have e3 : (c == (lw x)[i]) = false := beq_eq_false_iff_ne.2 (fun h => e h.symm)
      rw [e3, Bool.false_or]
      exact Ev.pos c1 (Ev.pos c2 (Ev.neg (fun h => e (UInt8.toNat_inj.1 (by omega))) hq))
def noC (c : UInt8) (x : ByteArray) : Bool := !(lw x).contains c
def jr (a : ByteArray) : ByteArray → List ByteArray → ByteArray
  | o, [] => o
  | o, x :: r => jr a (o ++ a ++ x) r
theorem jr_lw (a : ByteArray) : ∀ (r : List ByteArray) (o : ByteArray), lw (jr a o r) = lw o ++ Lib.joinTail (lw a) (r.map lw)
  | [], o => by simp [jr, Lib.joinTail]
  | x :: r, o => by
    rw [jr, jr_lw a r, lw_appJ, lw_appJ]
    simp [Lib.joinTail]
theorem join_jr (a x : ByteArray) (r : List ByteArray) : joinW a (x :: r) = jr a x r := by
  refine lw_injJ ?_
  rw [jr_lw]
  show Lib.join (lw x :: r.map lw) (lw a) = _
  rw [Lib.join_cons]
theorem jr_size (a : ByteArray) (ha : a.size = 1) : ∀ (r : List ByteArray) (o : ByteArray), (jr a o r).size = o.size + r.length + sizes r
  | [], o => by simp [jr, sizes]
  | x :: r, o => by
    rw [jr, jr_size a ha r, sizes_cons, ByteArray.size_append, ByteArray.size_append, List.length_cons, ha]
    omega
def okr (c : UInt8) : Nat → List ByteArray → Bool
  | _, [] => true
  | n, x :: r => noC c x && (decide (n + 1 + x.size ≤ 4000) && okr c (n + 1 + x.size) r)
theorem okr_eq (c : UInt8) : ∀ (r : List ByteArray) (n : Nat), n ≤ 4000 → okr c n r = (r.all (noC c) && decide (n + r.length + sizes r ≤ 4000))
  | [], n, h => by simp [okr, sizes, h]
  | x :: r, n, h => by
    rw [okr, List.all_cons, sizes_cons, List.length_cons]
    by_cases e : n + 1 + x.size ≤ 4000
    · rw [okr_eq c r _ e, decide_eq_true e, Bool.true_and, Bool.and_assoc]
      congr 3
      exact propext ⟨fun h => by omega, fun h => by omega⟩
    · rw [decide_eq_false e, decide_eq_false (show ¬ n + (r.length + 1) + (x.size + sizes r) ≤ 4000 by omega)]
      simp
def nil2 : ByteArray × Bool := (⟨#[]⟩, false)
theorem st_ev (x : ByteArray) (c : UInt8) (hx : x.size ≤ 140737488355328) : Ev (fun k => spec_l1Stands.f k x (c.toNat : Int)) (!noC c x) := by
  have h := st_l0 x c hx x.size 0 (by omega)
  unfold spec_l1Stands.f noC
  rw [Bool.not_not]
  exact h
theorem specL (l : List ByteArray) (c : UInt8) (hl : l.length ≤ 1048576) (hI : ∀ x ∈ l, x.size ≤ 1048576) : ∀ (n i : Nat) (o : ByteArray), i + n = l.length → 0 < i → o.size ≤ 4000 →
    Ev (fun k => spec_JoinStrings.l0 k l ⟨#[c]⟩ o (i : Int)) (if okr c o.size (l.drop i) = true then (jr ⟨#[c]⟩ o (l.drop i), true) else nil2) := by
  intro n
  induction n with
  | zero =>
    intro i o h h0 ho
    refine Ev.succ ?_
    simp only [spec_JoinStrings.l0]
    rw [List.drop_of_length_le (by omega)]
    exact Ev.neg (by omega) (Ev.pure _)
  | succ n ih =>
    intro i o h h0 ho
    have hi : i < l.length := by omega
    have hs := hI _ (List.getElem_mem hi)
    have c1 : (i : Int) < (l.length : Int) := by omega
    have c2 : (0 : Int) ≤ (i : Int) := by omega
    have c3 : (i : Int) > 0 := by omega
    have c4 : (0 : Int) < ((⟨#[c]⟩ : ByteArray).size : Int) := by show (0 : Int) < 1; decide
    have c5 : o.size + (⟨#[c]⟩ : ByteArray).size ≤ 9223372036854775807 := by show o.size + 1 ≤ _; omega
    have z1 : (o ++ (⟨#[c]⟩ : ByteArray)).size = o.size + 1 := ByteArray.size_append
    have z2 : (o ++ (⟨#[c]⟩ : ByteArray) ++ l[i]).size = o.size + 1 + l[i].size := by rw [ByteArray.size_append, z1]
    have c6 : (o ++ (⟨#[c]⟩ : ByteArray)).size + l[i].size ≤ 9223372036854775807 := by omega
    have e2 := wnext i (by omega)
    have eb : bt ⟨#[c]⟩ 0 = (c.toNat : Int) := rfl
    have hst := st_ev l[i] c (by omega)
    rw [drop_at l hi]
    refine Ev.succ ?_
    simp only [spec_JoinStrings.l0]
    rw [rdS l hi, eb, e2]
    refine Ev.pos c1 (Ev.pos c2 (Ev.pos c4 (Ev.bind hst ?_)))
    rw [okr, jr]
    cases hn : noC c l[i] with
    | false => exact Ev.pos rfl (Ev.pure _)
    | true =>
      rw [Bool.true_and]
      by_cases e : o.size + 1 + l[i].size ≤ 4000
      · have hq := ih (i + 1) (o ++ ⟨#[c]⟩ ++ l[i]) (by omega) (by omega) (by omega)
        rw [decide_eq_true e, Bool.true_and]
        rw [z2] at hq
        exact Ev.neg (by decide) (Ev.pos c3 (Ev.pos c5 (Ev.pos c6 (Ev.neg (by omega) hq))))
      · rw [decide_eq_false e, Bool.false_and]
        exact Ev.neg (by decide) (Ev.pos c3 (Ev.pos c5 (Ev.pos c6 (Ev.pos (by omega) (Ev.pure _)))))
theorem cont_eq (x : ByteArray) (c : UInt8) : strings_Contains.f x ⟨#[c]⟩ = some (!noC c x) := by
  show some (decide (0 ≤ Lib.indexByte (lw x) c)) = _
  rw [← Lib.contains_iff_indexByte, noC, Bool.not_not]
theorem implL (l : List ByteArray) (c : UInt8) (hl : l.length ≤ 1048576) (hJ : strings_Join.f l ⟨#[c]⟩ = some (joinW ⟨#[c]⟩ l)) : ∀ (n i x : Nat), i + n = l.length → x + sizes (l.drop i) ≤ 3000000 →
    Ev (fun k => impl_JoinStrings.l0 k l ⟨#[c]⟩ (x : Int) l (l.length : Int) (i : Int)) (if ((l.drop i).all (noC c) && decide (x + sizes (l.drop i) ≤ 4000)) = true then (joinW ⟨#[c]⟩ l, true) else nil2) := by
  intro n
  induction n with
  | zero =>
    intro i x h hx
    refine Ev.succ ?_
    simp only [impl_JoinStrings.l0]
    rw [List.drop_of_length_le (by omega)]
    refine Ev.neg (by omega) ?_
    by_cases e : x ≤ 4000
    · rw [decide_eq_true (show x + sizes [] ≤ 4000 from e)]
      exact Ev.neg (by omega) (Ev.bindc hJ (Ev.pure _))
    · rw [decide_eq_false (show ¬ x + sizes [] ≤ 4000 from e)]
      exact Ev.pos (by omega) (Ev.pure _)
  | succ n ih =>
    intro i x h hx
    have hi : i < l.length := by omega
    have c1 : (i : Int) < (l.length : Int) := by omega
    have c2 : (0 : Int) ≤ (i : Int) := by omega
    have e2 := wnext i (by omega)
    rw [drop_at l hi, sizes_cons] at hx ⊢
    have e3 : wrap64 ((x : Int) + (l[i].size : Int)) = ((x + l[i].size : Nat) : Int) := by unfold wrap64; omega
    refine Ev.succ ?_
    simp only [impl_JoinStrings.l0]
    rw [rdS l hi, e2, e3]
    refine Ev.pos c1 (Ev.pos c2 (Ev.pos c1 (Ev.bindc (cont_eq _ _) ?_)))
    rw [List.all_cons]
    cases hn : noC c l[i] with
    | false => exact Ev.pos rfl (Ev.pure _)
    | true =>
      have hq := ih (i + 1) (x + l[i].size) (by omega) (by omega)
      rw [Bool.true_and]
      rw [show x + (l[i].size + sizes (l.drop (i + 1))) = x + l[i].size + sizes (l.drop (i + 1)) by omega]
      exact Ev.neg (by decide) hq
theorem join_ok (l : List ByteArray) (a : ByteArray) (ha : a.size = 1) (hl : l.length + sizes l ≤ 1048576) : strings_Join.f l a = some (joinW a l) := by
  have hz : (joinW a l).size ≤ 140737488355328 := by
    cases l with
    | nil => exact Nat.zero_le _
    | cons x r =>
      rw [join_jr, jr_size a ha]
      rw [List.length_cons, sizes_cons] at hl
      omega
  unfold strings_Join.f
  rw [if_pos]
  unfold okJoin
  rw [decide_eq_true hz, decide_eq_true (show l.length ≤ 140737488355328 by omega)]
  rfl
theorem both_JoinStrings (l : List ByteArray) (a : ByteArray) (hl : l.length + sizes l ≤ 1048576) (hI : ∀ x ∈ l, x.size ≤ 1048576) : ∃ r, Ev (fun k => spec_JoinStrings.f k l a) r ∧ Ev (fun k => impl_JoinStrings.f k l a) r ∧ ∀ c x t, a = ⟨#[c]⟩ → l = x :: t → r = (if (noC c x && (decide (x.size ≤ 4000) && okr c x.size t)) = true then (jr ⟨#[c]⟩ x t, true) else nil2) := by
  have hsj : Ev (fun k => spec_JoinStrings.j0 k l a true) nil2 := by
    refine Ev.succ ?_
    simp only [spec_JoinStrings.j0]
    exact Ev.pos (by simp) (Ev.pure _)
  have hij : Ev (fun k => impl_JoinStrings.j0 k l a true) nil2 := by
    refine Ev.succ ?_
    simp only [impl_JoinStrings.j0]
    exact Ev.pos (by simp) (Ev.pure _)
  unfold spec_JoinStrings.f impl_JoinStrings.f
  by_cases ha : a.size = 1
  · obtain ⟨c, rfl⟩ : ∃ c, a = ⟨#[c]⟩ := by
      obtain ⟨⟨q⟩⟩ := a
      match q, ha with
      | [c], _ => exact ⟨c, rfl⟩
    have e1 : (((⟨#[c]⟩ : ByteArray).size : Int) != 1) = false := rfl
    have e2 : ((⟨#[c]⟩ : ByteArray).size : Int) = 1 := rfl
    cases l with
    | nil => exact ⟨nil2, Ev.pos e2 hsj, Ev.pos rfl hij, fun _ _ _ _ e => by cases e⟩
    | cons x r =>
      have hJ := join_ok (x :: r) ⟨#[c]⟩ rfl hl
      have hlc : (x :: r).length = r.length + 1 := rfl
      have hzc := sizes_cons x r
      have e3 : (((x :: r).length : Int) == 0) = false := beq_eq_false_iff_ne.2 (by omega)
      have hx := hI x (List.mem_cons_self ..)
      have hi := implL (x :: r) c (by omega) hJ (x :: r).length 0 r.length (by omega) (by rw [List.drop_zero]; omega)
      have ew : wrap64 (((x :: r).length : Int) - 1) = (r.length : Int) := by rw [hlc]; unfold wrap64; omega
      have hst := st_ev x c (by omega)
      have ex : (⟨#[]⟩ : ByteArray) ++ x = x := lw_injJ (by rw [lw_appJ]; rfl)
      have hs := specL (x :: r) c (by omega) hI r.length 1 x (by omega) (by omega)
      have hb : (if ((x :: r).all (noC c) && decide (r.length + sizes (x :: r) ≤ 4000)) = true then (joinW ⟨#[c]⟩ (x :: r), true) else nil2) = (if (noC c x && (decide (x.size ≤ 4000) && okr c x.size r)) = true then (jr ⟨#[c]⟩ x r, true) else nil2) := by
        rw [join_jr, List.all_cons, hzc]
        by_cases e : x.size ≤ 4000
        · rw [okr_eq c r _ e, decide_eq_true e, Bool.true_and, Bool.and_assoc]
          rw [show r.length + (x.size + sizes r) = x.size + r.length + sizes r by omega]
        · rw [decide_eq_false e, decide_eq_false (show ¬ r.length + (x.size + sizes r) ≤ 4000 by omega)]
          simp
      rw [List.drop_zero, hb] at hi
      refine ⟨(if (noC c x && (decide (x.size ≤ 4000) && okr c x.size r)) = true then (jr ⟨#[c]⟩ x r, true) else nil2), Ev.pos e2 ?_, Ev.neg (by omega) ?_, fun c' x' t' h1 h2 => by cases h2; cases h1; rfl⟩
      rotate_left
      · rw [e1]
        refine Ev.succ ?_
        simp only [impl_JoinStrings.j0]
        rw [ew]
        exact Ev.neg (by decide) hi
      · rw [e3]
        refine Ev.succ ?_
        simp only [spec_JoinStrings.j0]
        refine Ev.neg (by decide) (Ev.succ ?_)
        simp only [spec_JoinStrings.l0]
        have er : rdOf ByteArray.empty (x :: r) (0 : Int) = x := rfl
        have eb : bt ⟨#[c]⟩ 0 = (c.toNat : Int) := rfl
        have e0 : wrap64 ((0 : Int) + 1) = ((1 : Nat) : Int) := wnext 0 (by omega)
        rw [er, eb, ex, e0]
        have z0 : (⟨#[]⟩ : ByteArray).size + x.size ≤ 9223372036854775807 := by show 0 + x.size ≤ _; omega
        refine Ev.pos (by omega) (Ev.pos (by decide) (Ev.pos (by rw [e2]; decide) (Ev.bind hst ?_)))
        cases hn : noC c x with
        | false => exact Ev.pos rfl (Ev.pure _)
        | true =>
          rw [Bool.true_and]
          by_cases e : x.size ≤ 4000
          · rw [decide_eq_true e, Bool.true_and]
            exact Ev.neg (by decide) (Ev.neg (by decide) (Ev.pos z0 (Ev.neg (by omega) (hs e))))
          · rw [decide_eq_false e, Bool.false_and]
            exact Ev.neg (by decide) (Ev.neg (by decide) (Ev.pos z0 (Ev.pos (by omega) (Ev.pure _))))
  · have e1 : ((a.size : Int) != 1) = true := by
      have : ((a.size : Int) == 1) = false := beq_eq_false_iff_ne.2 (by omega)
      simp [bne, this]
    refine ⟨nil2, Ev.neg (by omega) hsj, ?_, fun c _ _ e _ => absurd (show a.size = 1 by rw [e]; rfl) ha⟩
    by_cases h0 : (l.length : Int) = 0
    · exact Ev.pos h0 hij
    · rw [e1]
      exact Ev.neg h0 hij
theorem mem_sizes : ∀ (l : List ByteArray) (x : ByteArray), x ∈ l → x.size ≤ sizes l
  | [], _, h => by cases h
  | y :: l, x, h => by
    rw [sizes_cons]
    rcases List.mem_cons.1 h with rfl | h
    · omega
    · have := mem_sizes l x h; omega
end Go.Proofs.YtklddfkhbhkhdaaDoor.Q
namespace Go.Proofs.YtklddfkhbhkhdaaDoor.Q
open Go.RowKit Go.Proofs.YtklddfkhbhkhdaaDoorW.PrintWords Go.Proofs.YtklddfkhbhkhdaaDoorW.PrintLast
theorem pw_size (a : List UInt8) : (pw a).size = a.length := by simp [pw, ByteArray.size]
theorem lw_pw (a : List UInt8) : lw (pw a) = a := by simp [pw, lw]
theorem pw_lw (a : ByteArray) : pw (lw a) = a := by apply ByteArray.ext; simp [pw, lw]
theorem lw_length (b : ByteArray) : (lw b).length = b.size := by unfold lw; rw [Array.length_toList]; rfl
theorem lw_inj {a b : ByteArray} (h : lw a = lw b) : a = b := by rw [← pw_lw a, ← pw_lw b, h]
end Go.Proofs.YtklddfkhbhkhdaaDoor.Q
namespace Go.Proofs.YtklddfkhbhkhdaaDoor.Q
open Go
def pieces (b : UInt8) : List UInt8 → List (List UInt8)
  | [] => [[]]
  | c :: r => if c = b then [] :: pieces b r else match pieces b r with
    | [] => [[c]]
    | p :: ps => (c :: p) :: ps
theorem pieces_ne (b : UInt8) : ∀ l, pieces b l ≠ []
  | [] => by simp [pieces]
  | c :: r => by
    unfold pieces
    split
    · simp
    · split <;> simp
theorem pieces_none (b : UInt8) : ∀ l : List UInt8, (∀ x ∈ l, x ≠ b) → pieces b l = [l]
  | [], _ => rfl
  | c :: r, h => by
    unfold pieces
    rw [if_neg (h c (List.mem_cons_self ..)), pieces_none b r (fun x hx => h x (List.mem_cons_of_mem _ hx))]
theorem pieces_at (b : UInt8) : ∀ (l : List UInt8) (i : Nat), l[i]? = some b → (∀ x ∈ l.take i, x ≠ b) → pieces b l = l.take i :: pieces b (l.drop (i + 1))
  | [], i, h, _ => by simp at h
  | c :: r, 0, h, _ => by
    simp only [List.getElem?_cons_zero, Option.some.injEq] at h
    rw [pieces, if_pos h]
    rfl
  | c :: r, i + 1, h, hn => by
    have h2 : r[i]? = some b := by simpa using h
    have ih := pieces_at b r i h2 (fun x hx => hn x (by rw [List.take_succ_cons]; exact List.mem_cons_of_mem _ hx))
    have hc : c ≠ b := hn c (by rw [List.take_succ_cons]; exact List.mem_cons_self ..)
    rw [pieces, if_neg hc, ih]
    rfl
theorem occ_one (s : List UInt8) (c : UInt8) (i : Nat) : Lib.occAt s [c] i = true ↔ s[i]? = some c := by
  unfold Lib.occAt
  have h := List.getElem?_drop (xs := s) (i := i) (j := 0)
  rw [Nat.add_zero] at h
  rw [← h]
  cases s.drop i with
  | nil => simp
  | cons a r =>
    simp only [List.isPrefixOf, Bool.and_true, List.getElem?_cons_zero, Option.some.injEq, beq_iff_eq]
    exact eq_comm
theorem index_one (s : List UInt8) (c : UInt8) : (Lib.index s [c] = -1 ∧ ∀ x ∈ s, x ≠ c) ∨ ∃ i : Nat, Lib.index s [c] = i ∧ s[i]? = some c ∧ ∀ x ∈ s.take i, x ≠ c := by
  rcases Lib.index_spec s [c] with ⟨h, hn⟩ | ⟨i, h, hi, ho, hn⟩
  · refine .inl ⟨h, fun x hx e => ?_⟩
    obtain ⟨j, hj, rfl⟩ := List.getElem_of_mem hx
    have := hn j (by omega)
    rw [Bool.eq_false_iff] at this
    exact this ((occ_one s c j).2 (by rw [List.getElem?_eq_getElem hj, e]))
  · refine .inr ⟨i, h, (occ_one s c i).1 ho, fun x hx e => ?_⟩
    obtain ⟨j, hj, rfl⟩ := List.getElem_of_mem hx
    rw [List.length_take] at hj
    have := hn j (by omega)
    rw [Bool.eq_false_iff] at this
    refine this ((occ_one s c j).2 ?_)
    rw [List.getElem_take] at e
    rw [List.getElem?_eq_getElem (by omega), e]
theorem lw_ext (s : ByteArray) (i j : Nat) : lw (s.extract i j) = ((lw s).take j).drop i := by
  unfold lw
  rw [ByteArray.data_extract, Array.toList_extract, List.extract_eq_take_drop, List.drop_take]
theorem splitB_pieces (c : UInt8) : ∀ (k : Nat) (s : ByteArray), Lib.countB s ⟨#[c]⟩ ≤ k → (Lib.splitB ⟨#[c]⟩ 0 k s).map lw = pieces c (lw s) := by
  intro k
  induction k with
  | zero =>
    intro s h
    rcases index_one (lw s) c with ⟨h1, hn⟩ | ⟨i, h1, hc, hn⟩
    · rw [Lib.splitB_zero, pieces_none c _ hn]; rfl
    · exfalso
      have := Lib.countB_hit s ⟨#[c]⟩ i (Nat.le_refl 1) h1
      omega
  | succ k ih =>
    intro s h
    rcases index_one (lw s) c with ⟨h1, hn⟩ | ⟨i, h1, hc, hn⟩
    · rw [Lib.splitB_miss _ _ _ _ h1, pieces_none c _ hn]; rfl
    · have h2 := Lib.countB_hit s ⟨#[c]⟩ i (Nat.le_refl 1) h1
      rw [Lib.splitB_hit _ _ _ _ i h1, pieces_at c _ i hc hn, List.map_cons, ih _ (by omega), lw_ext, lw_ext]
      have hs : (lw s).length = s.size := by unfold lw; rw [Array.length_toList]; rfl
      rw [show s.size = (lw s).length from hs.symm, List.take_length, Nat.add_zero, List.drop_zero]
      rfl
end Go.Proofs.YtklddfkhbhkhdaaDoor.Q
namespace Go.Proofs.YtklddfkhbhkhdaaDoor.Q
open Go.RowKit Go.Proofs.YtklddfkhbhkhdaaDoorW.PrintWords Go.Proofs.YtklddfkhbhkhdaaDoorW.PrintLast
def piecesB (b : UInt8) (s : ByteArray) : List ByteArray := (pieces b (lw s)).map pw
theorem splitW_pieces (s : ByteArray) (b : UInt8) : splitW s ⟨#[b]⟩ = piecesB b s := by
  have h := splitB_pieces b (Lib.countB s ⟨#[b]⟩) s (Nat.le_refl _)
  unfold piecesB splitW
  rw [← h, List.map_map]
  conv => lhs; rw [← List.map_id (Lib.splitB _ _ _ _)]
  exact List.map_congr_left fun x _ => (pw_lw x).symm
end Go.Proofs.YtklddfkhbhkhdaaDoor.Q
namespace Go.Proofs.YtklddfkhbhkhdaaDoor.Q
open Go.RowKit Go.Proofs.YtklddfkhbhkhdaaDoorW.PrintWords Go.Proofs.YtklddfkhbhkhdaaDoorW.PrintLast
set_option linter.unusedVariables false
theorem pieces_no (b : UInt8) : ∀ (l : List UInt8), ∀ p ∈ pieces b l, b ∉ p
  | [], p, h => by rw [pieces, List.mem_singleton] at h; subst h; simp
  | c :: r, p, h => by
    have ih := pieces_no b r
    rw [pieces] at h
    by_cases e : c = b
    · rw [if_pos e] at h
      rcases List.mem_cons.1 h with rfl | h
      · simp
      · exact ih p h
    · rw [if_neg e] at h
      cases hp : pieces b r with
      | nil => exact absurd hp (pieces_ne b r)
      | cons q qs =>
        rw [hp] at h ih
        rcases List.mem_cons.1 h with rfl | h
        · intro hm
          rcases List.mem_cons.1 hm with e2 | hm
          · exact e e2.symm
          · exact ih q List.mem_cons_self hm
        · exact ih p (List.mem_cons_of_mem _ h)
theorem join_pieces (b : UInt8) : ∀ l : List UInt8, ∃ q qs, pieces b l = q :: qs ∧ q ++ Lib.joinTail [b] qs = l
  | [] => ⟨[], [], rfl, by simp [Lib.joinTail]⟩
  | c :: r => by
    obtain ⟨q, qs, e1, e2⟩ := join_pieces b r
    rw [pieces]
    by_cases e : c = b
    · rw [if_pos e, e1]
      refine ⟨[], q :: qs, rfl, ?_⟩
      rw [← e2, e]
      simp [Lib.joinTail]
    · rw [if_neg e, e1]
      exact ⟨c :: q, qs, rfl, by rw [← e2]; rfl⟩
theorem join_len (b : UInt8) : ∀ (qs : List (List UInt8)), (Lib.joinTail [b] qs).length = qs.length + (qs.map List.length).sum
  | [] => rfl
  | q :: qs => by
    have ih := join_len b qs
    have e : Lib.joinTail [b] (q :: qs) = (b :: q) ++ Lib.joinTail [b] qs := by simp [Lib.joinTail]
    rw [e, List.length_append, ih]
    simp
    omega
theorem sizes_pw (qs : List (List UInt8)) : sizes (qs.map pw) = (qs.map List.length).sum := by
  unfold sizes
  rw [List.map_map]
  rw [List.map_congr_left (fun x _ => show (ByteArray.size ∘ pw) x = List.length x from pw_size x)]
theorem noC_pw {b : UInt8} {p : List UInt8} (h : b ∉ p) : noC b (pw p) = true := by
  unfold noC
  rw [lw_pw]
  simpa using h
theorem split_join (s : ByteArray) (c : UInt8) (hs : s.size ≤ 10) : Ev (fun k => impl_JoinStrings.f k (piecesB c s) ⟨#[c]⟩) (s, true) := by
  obtain ⟨q, qs, e1, e2⟩ := join_pieces c (lw s)
  have hno := pieces_no c (lw s)
  rw [e1] at hno
  have hl := congrArg List.length e2
  rw [List.length_append, join_len, lw_length] at hl
  have hb : piecesB c s = pw q :: qs.map pw := by unfold piecesB; rw [e1]; rfl
  have hz : (piecesB c s).length + sizes (piecesB c s) ≤ 12 := by
    rw [hb, sizes_cons, sizes_pw, pw_size, List.length_cons, List.length_map]
    omega
  obtain ⟨r, _, h2, h3⟩ := both_JoinStrings (piecesB c s) ⟨#[c]⟩ (by omega) (fun x hx => by have := mem_sizes _ x hx; omega)
  have hr := h3 c (pw q) (qs.map pw) rfl hb
  have hz2 : (pw q).size + (qs.map pw).length + sizes (qs.map pw) ≤ 4000 := by
    rw [sizes_pw, pw_size, List.length_map]; omega
  have hall : (qs.map pw).all (noC c) = true := by
    rw [List.all_eq_true]
    intro x hx
    obtain ⟨p, hp, rfl⟩ := List.mem_map.1 hx
    exact noC_pw (hno p (List.mem_cons_of_mem _ hp))
  rw [noC_pw (hno q List.mem_cons_self), decide_eq_true (show (pw q).size ≤ 4000 by omega), okr_eq c _ _ (by omega), hall, decide_eq_true hz2] at hr
  have hj : jr ⟨#[c]⟩ (pw q) (qs.map pw) = s := by
    refine lw_inj ?_
    rw [jr_lw, lw_pw, List.map_map]
    have : (lw ∘ pw) = id := by funext x; exact lw_pw x
    rw [this, List.map_id]
    exact e2
  rw [hj] at hr
  simp only [Bool.and_self, if_true] at hr
  rw [hr] at h2
  exact h2
theorem less_asym (a b : ByteArray) : (Op.bytesLess a.toList b.toList = true → Op.bytesLess b.toList a.toList = false) := by
  rw [bytesLess_eq, bytesLess_eq, decide_eq_true_eq, decide_eq_false_iff_not]
  exact fun h1 h2 => List.lt_asymm h1 h2
set_option maxRecDepth 20000 in
theorem pure_FnSplitJoin (l0 : List Int) (hb : Bytes l0) : ∃ k, laws_FnSplitJoin.f k l0 = some true := by
  refine Ev.ex ?_
  unfold laws_FnSplitJoin.f laws_vBig.f
  refine Ev.bindc rfl ?_
  by_cases h0 : (l0.length : Int) > 65536
  · exact Ev.pos (by simpa using h0) (Ev.pure _)
  refine Ev.neg (by simpa using h0) ?_
  obtain ⟨s, sep, e1, hs⟩ := drawSplit_ok hb
  obtain ⟨l, mark, e2, hl, hx⟩ := drawJoin_ok hb
  obtain ⟨a, b, e3⟩ := drawLess_ok hb
  have hsz : sizes l ≤ 4 * 5000 := by
    have : ∀ (l : List ByteArray), (∀ x ∈ l, x.size ≤ 5000) → sizes l ≤ l.length * 5000 := by
      intro l
      induction l with
      | nil => intro _; simp [sizes]
      | cons y l ih =>
        intro h
        have h1 := h y List.mem_cons_self
        have h2 := ih (fun x hx => h x (List.mem_cons_of_mem _ hx))
        rw [sizes_cons, List.length_cons]
        omega
    have := this l hx
    omega
  obtain ⟨rj, j1, j2, _⟩ := both_JoinStrings l mark (by omega) (fun x hm => by have := hx x hm; omega)
  refine Ev.bindc e1 ?_
  simp only
  -- the last step
  have last : ∀ (ls : List ByteArray) (ok : Bool), impl_SplitString.f s sep = some (ls, ok) → Ev (fun k => laws_FnSplitJoin.j0 k s sep ls ok false) true := by
    intro ls ok h
    refine Ev.succ ?_
    simp only [laws_FnSplitJoin.j0]
    refine Ev.neg (by decide) ?_
    unfold impl_SplitString.f at h
    rw [if_neg (by omega)] at h
    by_cases hs1 : (sep.size : Int) = 1
    · rw [if_pos hs1] at h
      obtain ⟨c, rfl⟩ := Lib.one_byte sep (by omega)
      have hf : strings_Split.f s ⟨#[c]⟩ = some (piecesB c s) := by
        unfold strings_Split.f
        rw [if_pos ⟨by omega, Nat.le_refl _⟩, splitW_pieces]
      rw [hf, Option.bind_some] at h
      have h := Option.some.inj h
      injection h with h1 h2
      subst h1; subst h2
      refine Ev.pos hs1 (Ev.bind (split_join s c hs) (Ev.pos rfl (Ev.pos rfl (Ev.const ?_))))
      simp
    · rw [if_neg hs1] at h
      have h := Option.some.inj h
      injection h with h1 h2
      subst h1; subst h2
      exact Ev.neg hs1 (Ev.neg (by decide) (Ev.pure _))
  obtain ⟨ls, ok, e4⟩ : ∃ ls ok, impl_SplitString.f s sep = some (ls, ok) := by
    unfold impl_SplitString.f
    rw [if_neg (by omega)]
    by_cases hs1 : (sep.size : Int) = 1
    · rw [if_pos hs1]
      unfold strings_Split.f
      rw [if_pos ⟨by omega, by omega⟩]
      exact ⟨_, _, rfl⟩
    · rw [if_neg hs1]; exact ⟨_, _, rfl⟩
  refine Ev.bindc e4 (Ev.bindc e2 (Ev.bind j2 (Ev.bind j1 (Ev.bindc e3 (Ev.pos rfl ?_)))))
  have hbb : (rj.2 != rj.2) = false := by cases rj.2 <;> rfl
  simp only
  rw [hbb]
  refine Ev.neg (by decide) ?_
  unfold impl_LessString.f spec_LessString.f
  refine Ev.bindc rfl (Ev.bindc rfl ?_)
  refine Ev.neg (by simp) (Ev.bindc rfl ?_)
  cases hab : Op.bytesLess a.toList b.toList with
  | false => exact Ev.neg (by decide) (last ls ok e4)
  | true =>
    refine Ev.pos rfl (Ev.bindc rfl ?_)
    rw [less_asym a b hab]
    exact last ls ok e4
end Go.Proofs.YtklddfkhbhkhdaaDoor.Q
namespace Go.Proofs.YtklddfkhbhkhdaaDoor.Pure
open Go.Proofs.YtklddfkhbhkhdaaDoor.Q Go.RowKit Go.Proofs.YtklddfkhbhkhdaaDoorW.PrintWords Go.Proofs.YtklddfkhbhkhdaaDoorW.PrintLast
theorem FnSplitJoin (l0 : List Int) (hb : Q.Bytes l0) : ∃ k, Q.laws_FnSplitJoin.f k l0 = some true := Q.pure_FnSplitJoin l0 hb
end Go.Proofs.YtklddfkhbhkhdaaDoor.Pure
namespace Go.Proofs.YtklddfkhbhkhdaaDoor.Q
open Go.ChangeShapes Go.WideShapes Go.RowKit Go.Proofs.YtklddfkhbhkhdaaDoorW.PrintWords Go.Proofs.YtklddfkhbhkhdaaDoorW.PrintLast Go.Proofs.YtklddfkhbhkhdaaDoorW.PrintMore
set_option maxRecDepth 100000 in
theorem open_bytes {H : Type} {enc : TypeId × Value → H} {w : World} {base b0 : Nat} {spare : Nat → Bool} {held : Bool} {r : Reach} {v : Value} {d : DataW H} {p : List MemPlace} (hv : Value.okWide Tryd.prog w r b0 25 v) (h : DataW.Trod enc Tryd.prog w base spare held 25 v d p) :
    ∃ (A : Option Addr) (c : Nat) (l : List Int), v = .slice A l.length c ∧ Kd.C (Kd.int .u8) w A l.length l ∧ l.length ≤ c ∧ l.length ≤ maxLen ∧ ∀ x ∈ l, 0 ≤ x ∧ x ≤ 255 := by
  obtain ⟨a0, len, cap, rfl⟩ := okWide_slice Tryd.underlying25 hv
  obtain ⟨fuel, hf⟩ := h
  have hwf : ∀ n : Int, (Lit.int .u8 n).wf = true → 0 ≤ n ∧ n ≤ 255 := fun n h => by
    have h1 : IntKind.u8.min = 0 := by decide
    have h2 : IntKind.u8.max = 255 := by decide
    simp [Lit.wf, h1, h2] at h
    omega
  rcases open_ints Tryd.underlying25 Tryd.underlying5 (by kernel_rfl) hf with ⟨e, _⟩ | ⟨a, len', cap', zs, e, _, hl, hm, hss, _, hc, hz⟩
  · injection e with e
    injection e with e1 e2 e3
    subst e1; subst e2; subst e3
    exact ⟨none, 0, [], rfl, ⟨rfl, by decide, fun h => absurd h (by decide)⟩, Nat.le_refl _, Nat.zero_le _, fun x hx => by cases hx⟩
  · injection e with e
    injection e with e1 e2 e3
    subst e1; subst e2; subst e3
    have hls : len ≤ zs.length := by rw [hss]; split <;> omega
    have hlt : (zs.take len).length = len := by rw [List.length_take]; omega
    refine ⟨some a, cap, zs.take len, by rw [hlt], ?_, by rw [hlt]; exact hl, by rw [hlt]; omega, fun x hx => hwf x (hz x (List.mem_of_mem_take hx))⟩
    rw [hlt]
    refine ⟨hlt, by unfold maxLen at hm; omega, fun _ => ⟨a, rfl, fun j p hj => ?_⟩⟩
    obtain ⟨hjl, rfl⟩ := List.getElem?_eq_some_iff.1 hj
    rw [hlt] at hjl
    have h1 := hc j (by omega)
    have h2 : zs.getD j 0 = (zs.take len)[j] := by
      rw [List.getElem_take, List.getD_eq_getElem?_getD, List.getElem?_eq_getElem (by omega)]
      rfl
    rw [h2] at h1
    refine ⟨[.int .u8 (zs.take len)[j]], rfl, rfl, fun i u hu => ?_⟩
    cases i with
    | zero =>
      injection hu with hu
      subst hu
      have e1 : j * (Kd.int .u8).sz + 0 = j := by show j * 1 + 0 = j; omega
      rw [e1]
      exact h1
    | succ i => cases hu
end Go.Proofs.YtklddfkhbhkhdaaDoor.Q
namespace Go.Proofs.YtklddfkhbhkhdaaDoor.Q
open Go
theorem wrap_listed {H : Type} {enc : TypeId × Value → H} {a : Assume} {C : Checked} {os : Os} {f : FuncId} {fn : Func} {s : ChangeSpec} {dom : List PathCond} {ap fr hd ag : Bool} {X : World → Prop}
    (hX : ∀ u v : World, u.heap = v.heap → X u → X v) (own : ownKnob C.prog.godebug = none) (started : os.Started) (late : C.prog.inits.idxOf? f = none) (hf : C.prog.funcs[f]? = some fn)
    (wit : ∃ (w : World) (t : Tape) (i : Input), w.os = os ∧ (w.forCall t i).Shaped C.prog ∧ i.vars = [] ∧ Input.okWide C.prog (w.forCall t i) .any w.heap.size f i ∧
      ((s.pre enc C.prog fn dom ap (w.forCall t i).memory i.args ∧ X (w.forCall t i).memory) ∧ sizedMet enc C.prog fn (OpenSpec.ofChange s) ap (w.forCall t i).memory i.args) ∧ a.holds C.prog (lone (Frame.enter C.prog f i.args .normal) [] (w.forCall t i)))
    (tells : ∀ (W : World) (base : Nat) (args : Array Value) (ds gs : List (DataW H)) (before : List MemPlace),
      (∀ (j : Nat) t v, fn.params[j]? = some t → args[j]? = some v → Value.okWide C.prog W .any base t v) → DataW.Whole enc C.prog fn.params.toList s.vars ap W args.toList ds gs before →
      dom.all (PathCond.test C.prog ⟨fn.params.toList, ds, s.plain.varTypes C.prog, gs⟩) = true →
      (DataW.weightsEach C.prog (fn.params.toList ++ s.plain.varTypes C.prog) (ds ++ gs)).all (· ≤ reachBytes) = true → X W → W.ShapedOpen C.prog →
      Calls C.prog f args W fun e W' => ∃ v, e = .returned v ∧ s.post enc C.prog fn ap fr hd ag W args v W') :
    ReturnsInHanded a C os f .any (fun w args => (s.pre enc C.prog fn dom ap w args ∧ X w) ∧ sizedMet enc C.prog fn (OpenSpec.ofChange s) ap w args) (s.post enc C.prog fn ap fr hd ag) :=
  returnsInHanded_of_calls own started late wit fun w t i _ shape _ fits met _ => by
    obtain ⟨_, _, _, g, hg, _, _, _, _, vals⟩ := fits
    cases Option.some.inj (hg.symm.trans hf)
    obtain ⟨⟨⟨ds, gs, before, whole, cond⟩, x⟩, sized⟩ := met
    have whole2 := DataW.Whole.of_heap (w' := w.forCall t i) (by rfl) whole
    have told := tells (w.forCall t i) w.heap.size i.args ds gs before vals whole2 cond (sized.weights whole) (hX _ _ (by rfl) x) shape
    refine told.mono ?_
    rintro e W' ⟨v, rfl, p⟩
    exact ChangeSpec.post_blind p
end Go.Proofs.YtklddfkhbhkhdaaDoor.Q
namespace Go.Proofs.YtklddfkhbhkhdaaDoor.Q
open Go
theorem max_of {W : World} (h : W.ShapedOpen Tryd.prog) : MaxIs W :=
  cell_of_shapedOpen_int (t := 3) (zero := #[.int .i64 0]) h (of_decide_eq_true (by kernel_rfl)) (by kernel_rfl) rfl (by kernel_rfl) (by kernel_rfl) Tryd.underlying3
end Go.Proofs.YtklddfkhbhkhdaaDoor.Q
namespace Go.Proofs.YtklddfkhbhkhdaaDoor.fnSplitJoin
open Go.ChangeShapes Go.WideShapes Go.ChangeAt Go.RowKit
open Go.ChangeMaps (open_string shut_string)
set_option linter.unusedVariables false
theorem own : ownKnob Tryd.prog.godebug = none := by kernel_rfl
theorem laidOut : laidOutB Tryd.prog = true := by kernel_rfl
set_option maxRecDepth 100000 in
theorem lifted (os : Os) (started : os.Started) (H : Type) (enc : TypeId × Value → H) :
    ReturnsInHanded {} Tryd.checked os 4 .any (fun w args => (Rows.fnSplitJoinSpec.pre enc Tryd.prog Tryd.f4 Rows.fnSplitJoinRow.domain false w args ∧ laidMetH Tryd.prog Rows.fnSplitJoinRow.laid w) ∧ sizedMet enc Tryd.prog Tryd.f4 (OpenSpec.ofChange Rows.fnSplitJoinSpec) false w args) (Rows.fnSplitJoinSpec.post enc Tryd.prog Tryd.f4 false true false false) := by
  refine Q.wrap_listed (C := Tryd.checked) (X := fun w => laidMetH Tryd.prog Rows.fnSplitJoinRow.laid w) (fun _ _ hh h => h.of_heap hh) own started (by kernel_rfl) Tryd.func4
    (ChangeSpec.witness_shaped (enc := enc) (C := Tryd.checked) (os := os) (X := fun w _ => laidMetH Tryd.prog Rows.fnSplitJoinRow.laid w) false (World.laidAll Tryd.prog os Rows.fnSplitJoinRow.laid) #[.slice none 0 0] 8 (World.laidAll_os _ _ _)
      (World.shaped_of_ZipB (by kernel_rfl) (by kernel_rfl)) (by kernel_rfl) (by kernel_rfl) (by kernel_rfl)
      (by rw [MakeChecks.laidMetH_plain _ _ _ (by kernel_rfl)]; exact laidMet_laidAll _ (by kernel_rfl) (by kernel_rfl))) ?_
  intro W base args ds gs before hval0 hW hcnd hsz0 hL hsh
  have hsz : (DataW.weightsEach Tryd.prog (Tryd.f4.params.toList ++ Rows.fnSplitJoinSpec.plain.varTypes Tryd.prog) (ds ++ gs)).all (· ≤ reachBytes) = true := hsz0
  have hval : ∀ (j : Nat) t v, Tryd.f4.params[j]? = some t → args[j]? = some v → Value.okWide Tryd.prog W .any base t v := hval0
  have hW' := hW
  obtain ⟨p, q, hA0, hV, rfl, hfz, hnd⟩ := hW
  have hA : DataW.TrodAll enc Tryd.prog W 0 (fun _ => true) true Tryd.f4.params.toList args.toList ds p := hA0
  rw [Tryd.params4] at hA hval hsz
  obtain ⟨v0, vs0, d0, ds0, p0, q0, hargs, rfl, rfl, h0, r0⟩ := trodAll_cons hA
  obtain ⟨rfl, rfl, rfl⟩ := trodAll_nil r0
  obtain rfl : args = #[v0] := by cases args; simp_all
  obtain ⟨rfl, rfl⟩ := trodVars_none hV
  have k0 := h0
  have lt0 : ∀ x ∈ p0, x.block < W.heap.size := by obtain ⟨m, hm⟩ := k0; exact DataW.trod_lt m _ _ _ hm
  obtain ⟨A0, c0, l0, rfl, hC0, hc0, hl0, hI0⟩ := Q.open_bytes (hval 0 25 v0 rfl rfl) h0
  clear hA0 hval0 hsz0 hsz
  have hL2 : laidMet Tryd.prog Rows.fnSplitJoinRow.laid W := by rw [← MakeChecks.laidMetH_plain _ _ _ (by kernel_rfl)]; exact hL
  have hG_MaxIs : Q.MaxIs W := Q.max_of hsh
  obtain ⟨k, hk⟩ := Pure.FnSplitJoin l0 hI0
  refine (Q.laws_FnSplitJoin.calls k A0 c0 l0 true W hC0 hc0 hk hG_MaxIs).mono fun e W' ⟨he, bel0⟩ => ?_
  have bel : Below W.heap.size W W' := bel0
  subst he
  exact ⟨_, rfl, _, _, _, [], _, [], hW', trodAll_mk1 (shut_bool Tryd.underlying4 _), (trodAll_cons_mk (Below.trod laidOut (by kernel_rfl) (of_decide_eq_true (by kernel_rfl)) k0 bel lt0) trodAll_mk0), rfl, bel.frame _, fun h => by cases h⟩
theorem over : Rows.fnSplitJoinRow.holds Tryd.pinned (OpenSpec.ofChange Rows.fnSplitJoinSpec) :=
  OpenClaim.holds_of_wide 4 Tryd.f4 rfl rfl rfl rfl rfl rfl rfl ⟨rfl, rfl, rfl, rfl, rfl⟩ rfl rfl rfl rfl rfl (by kernel_rfl) Tryd.func4 (by kernel_rfl)
    (of_decide_eq_true (by kernel_rfl)) (by unfold Func.isWrapper; first | (rw [if_pos (by decide +kernel)]; kernel_rfl) | (rw [if_neg (by decide +kernel)]; exact ⟨rfl, rfl⟩))
    (fun os started H enc _ => lifted os started H enc)
set_option maxRecDepth 100000 in
theorem proved : Rows.FnSplitJoinCardSaid :=
  Claim7.holds_tied_plain_at .later [] [.data, .pinned] true (true, "2e950a33bd4384baa06fb028b9a6bdea735eae89257bfebfe682170664b9b05e") true over (fun _ h => by cases h) (by kernel_rfl) (fun _ h => by cases h) fnSplitJoin_row_tie rfl ⟨rfl, rfl⟩ (by kernel_rfl) rfl
    (fun f fn hf hfn => by
      obtain rfl : f = 4 := Option.some.inj ((show Tryd.prog.funcNamed Tryd.f4.name = some 4 by kernel_rfl).symm.trans hf) |>.symm
      obtain rfl : fn = Tryd.f4 := (Option.some.inj (Tryd.func4.symm.trans hfn)).symm
      exact ⟨by kernel_rfl, fun j t ht => by
        rw [Tryd.params4] at ht
        have hm : t ∈ [25] := by simpa using Array.mem_of_getElem? ht
        have hall : ([25].all fun u => !Tryd.prog.wantsStandIn u) = true := by kernel_rfl
        exact (show Tryd.prog.wantsStandIn t = false by simpa using List.all_eq_true.1 hall t hm)⟩)
    (by kernel_rfl)
end Go.Proofs.YtklddfkhbhkhdaaDoor.fnSplitJoin
namespace Go.Proofs.YtklddfkhbhkhdaaDoor
theorem fnSplitJoin_holds : Rows.FnSplitJoinCardSaid := fnSplitJoin.proved
end Go.Proofs.YtklddfkhbhkhdaaDoor
