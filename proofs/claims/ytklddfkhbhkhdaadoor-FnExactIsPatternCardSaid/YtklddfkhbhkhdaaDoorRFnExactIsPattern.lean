/- The law FnExactIsPattern: for every input the call answers true and leaves its arguments as they were. -/
import Derived.Test.YtklddfkhbhkhdaaDoorKwWords
import Derived.Test.YtklddfkhbhkhdaaDoorKwLast
import Derived.Test.YtklddfkhbhkhdaaDoorKwApart
import Derived.Test.YtklddfkhbhkhdaaDoorKwFoot
import Derived.Test.YtklddfkhbhkhdaaDoorKwKept
import Derived.Test.YtklddfkhbhkhdaaDoorKwShare
import Derived.Test.YtklddfkhbhkhdaaDoorKwN
import Derived.Test.YtklddfkhbhkhdaaDoorKwRepsOne
import Derived.Test.YtklddfkhbhkhdaaDoorKwMore
import Derived.Test.YtklddfkhbhkhdaaDoorProg
import Derived.Below
import Derived.Deep.Draws
import Derived.Deep.AppendLies
import Derived.Maps.AppendAt
import Derived.OwnWalk
import Derived.Laws.BytesArg
import Derived.Laws.MakeOwn
import Derived.Laws.OwnMore
import Derived.Deep.OwnRows
import Derived.Tactics
import Derived.Lib.ConvBytes
import Derived.Laws.Slices
import Derived.WalkKit
import Derived.KernelRfl
import Derived.RowKit3
import Derived.Deep.LoopGhost
import Derived.Deep.QuietTactic
import Derived.BigQuiet
import Derived.WideLaws
import Derived.Deep.DeepCutAuto
import Derived.Deep.CutBlock
import Derived.Deep.RegionHeld3
import Derived.Laws.Rows
import Derived.Lib.AppendStr
import Derived.ArgAppend
import Derived.Laws.IdiomCopy
import Derived.OrdersHeld
import Derived.Laws.BitsLemmas
import Derived.RowKit
import Derived.Laws.LoneSync
import Derived.Defers
import Derived.RegionCalls
import Derived.Laws.Pointers
import Derived.Deep.MidRow
import Derived.WalkSpells
import Derived.Shelf.Strings.SlTrimAscii
import Derived.Ground.NamesProg
import Derived.Ground.SlgfProg
import Derived.Test.YtklddfkhbhkhdaaDoorRows
import Derived.Test.YtklddfkhbhkhdaaDoorTie
import Derived.Test.YtklddfkhbhkhdaaDoorCards
import Derived.ProofKit
import Derived.OpenShut
import Derived.ShutString
import Derived.ChangeOld
import Derived.SizedLaws
import Derived.Carry
import Derived.LaidMore
import Derived.Lay
import Derived.SevenTiedAt
import Derived.Stop.Joined
set_option linter.unusedVariables false
set_option linter.unusedSimpArgs false
namespace Go.Proofs.YtklddfkhbhkhdaaDoor.Q
open Go.RowKit Go.Proofs.YtklddfkhbhkhdaaDoorW.PrintWords Go.Proofs.YtklddfkhbhkhdaaDoorW.PrintLast Go.Proofs.YtklddfkhbhkhdaaDoorW.PrintMore
attribute [local go_sem] max2_int min2_int max_two min_two max_three min_three max_four min_four   -- for this text's walks alone
set_option linter.unusedVariables false
set_option linter.unusedSimpArgs false
def errW : Option Int → Value
  | none => .nilIface
  | some c => .iface 0 (.int .i64 c)
theorem errW_none : errW none = .nilIface := rfl
theorem errW_some (c : Int) : errW (some c) = .iface 0 (.int .i64 c) := rfl
def Sep (u v : Value) : Prop := ∀ k, u.ownBlock = some k → v.ownBlock = some k → False
theorem Sep.symm {u v : Value} (h : Sep u v) : Sep v u := fun k a b => h k b a
theorem isSome_setCell (w : World) (a b : Addr) (v : Value) : ((w.setCell a v).cell? b).isSome = (w.cell? b).isSome := by
  by_cases e : a = b
  · subst e
    simp only [World.setCell, World.cell?, Array.getElem?_modify, ↓reduceIte]
    cases w.heap[a.block]? with
    | none => rfl
    | some o =>
      cases o with
      | cells c t f =>
        simp only [Option.map_some]
        cases a.spot with
        | some z => simp
        | none => by_cases h : a.off < c.size <;> simp [h]
      | _ => rfl
  · rw [World.cell?_setCell_other _ _ _ _ e]
theorem run_field_156 (v : Value) (w : World) : Sem.run Tryd.prog (Instr.field 156 (.agg #[v]) 0) w = .ok v w := by kernel_rfl
theorem run_field_157 (v : Value) (w : World) : Sem.run Tryd.prog (Instr.field 157 (.agg #[v]) 0) w = .ok v w := by kernel_rfl
end Go.Proofs.YtklddfkhbhkhdaaDoor.Q
namespace Go.Proofs.YtklddfkhbhkhdaaDoor.Q
open Go.RowKit Go.Proofs.YtklddfkhbhkhdaaDoorW.PrintWords Go.Proofs.YtklddfkhbhkhdaaDoorW.PrintLast Go.Proofs.YtklddfkhbhkhdaaDoorW.PrintMore
attribute [local go_sem] run_field_156 run_field_157 isSome_setCell max2_int min2_int max_two min_two max_three min_three max_four min_four   -- for this text's walks alone
set_option linter.unusedVariables false
set_option linter.unusedSimpArgs false
mutual
def spec_l6Pattern.l0 : Nat → ByteArray → Int → Option (Bool)
  | 0, _, _ => none
  | k + 1, x0, x3 => if x3 < (x0.size : Int) then (spec_l6Pattern.j1 k x0 x3 (decide (x3 ≤ 14))) else (spec_l6Pattern.j1 k x0 x3 false)
def spec_l6Pattern.j1 : Nat → ByteArray → Int → Bool → Option (Bool)
  | 0, _, _, _ => none
  | k + 1, x0, x3, x11 => if x11 = true then (if 0 ≤ x3 then (if x3 < (x0.size : Int) then (if (bt x0 x3) = 63 then (spec_l6Pattern.l0 k x0 (wrap64 (x3 + 1))) else (if (bt x0 x3) = 42 then (spec_l6Pattern.l0 k x0 (wrap64 (x3 + 1))) else (if (bt x0 x3) < 97 then (some false) else (if (bt x0 x3) > 122 then (some false) else (spec_l6Pattern.l0 k x0 (wrap64 (x3 + 1))))))) else (none)) else (none)) else (some (decide ((x0.size : Int) ≤ 14)))
end
def spec_l6Pattern.f (k : Nat) (a0 : ByteArray) : Option (Bool) := spec_l6Pattern.l0 k a0 0
set_option maxHeartbeats 8000000 in
set_option maxRecDepth 100000 in
theorem spec_l6Pattern.calls (k : Nat) (a0 : ByteArray) (r : Bool) (w : World) (h : spec_l6Pattern.f k a0 = some r) :
    Calls Tryd.prog 42 #[.string a0] w fun e w' => e = .returned (.bool r) ∧ Drawn0 w w' := by
  have H : (spec_l6Pattern.l0 k a0 0) = some r := h
  clear h
  have H' := Aside0.mk H
  clear H
  go_enter Tryd.func42, Tryd.ntmps42
  go_wp2
  go_loopg [3] k (fun kq v3 w' => ∃ (x3_1 : Int), v3 = .int .i64 x3_1 ∧ Aside0 (spec_l6Pattern.l0 kq a0 x3_1 = some r) ∧ Aside0 (kq ≤ k) ∧ Drawn0 w w')
  case atStart => exact ⟨(0), (by first | rfl | (simp; done) | (simp [*]; done)), H', ⟨Nat.le_refl _⟩, by repeat (first | exact Drawn0.refl _ | apply Drawn0.step)⟩
  case round =>
    clear H'
    obtain ⟨x3_1, rfl, HA, HK1, ⟨m1, rfl⟩⟩ := hrel
    cases gk with
    | zero => exact absurd HA.out (by simp [spec_l6Pattern.l0])
    | succ k1 =>
      have H := HA.out
      clear HA
      simp only [spec_l6Pattern.l0] at H
      have HC2 := Aside0.mk H
      clear H
      go_upto_region 2 with (fail)
      go_cut [11] (fun v11 wc => ∃ (kq : Nat) (x11_1 : Bool), v11 = .bool x11_1 ∧ Aside0 (spec_l6Pattern.j1 kq a0 x3_1 x11_1 = some r) ∧ Aside0 (kq ≤ k1) ∧ Drawn0 w wc)
      case first =>
        have H := HC2.out
        clear HC2
        by_cases c3 : x3_1 < (a0.size : Int)
        · rw [if_pos c3] at H
          have c3b0 : decide (x3_1 < (a0.size : Int)) = true := decide_eq_true c3
          clear c3
          (first | rw [c3b0] | (simp only [i64_w, i32_w]; rw [c3b0]) | skip)
          have H' := Aside0.mk H
          clear H
          go_wp2
          go_meet
          case rel => exact ⟨_, (decide (x3_1 ≤ 14)), (by first | rfl | (simp; done) | (simp [*]; done)), H', ⟨by have := HK1.out; first | omega | exact Nat.le_refl _⟩, by repeat (first | exact Drawn0.refl _ | apply Drawn0.step)⟩
        · rw [if_neg c3] at H
          have c3b0 : decide (x3_1 < (a0.size : Int)) = false := decide_eq_false c3
          clear c3
          (first | rw [c3b0] | (simp only [i64_w, i32_w]; rw [c3b0]) | skip)
          have H' := Aside0.mk H
          clear H
          go_wp2
          go_meet
          case rel => exact ⟨_, (false), (by first | rfl | (simp; done) | (simp [*]; done)), H', ⟨by have := HK1.out; first | omega | exact Nat.le_refl _⟩, by repeat (first | exact Drawn0.refl _ | apply Drawn0.step)⟩
      case rest =>
        clear HC2
        try clear p2
        try clear c3
        try clear c3b0
        obtain ⟨kq, x11_1, rfl, HA, HJ1, ⟨mc1, rfl⟩⟩ := hcut
        cases kq with
        | zero => exact absurd HA.out (by simp [spec_l6Pattern.j1])
        | succ kj1 =>
          have H := HA.out
          clear HA
          simp only [spec_l6Pattern.j1] at H
          by_cases c4 : x11_1 = true
          · subst c4
            have H1 : (if 0 ≤ x3_1 then (if x3_1 < (a0.size : Int) then (if (bt a0 x3_1) = 63 then (spec_l6Pattern.l0 kj1 a0 (wrap64 (x3_1 + 1))) else (if (bt a0 x3_1) = 42 then (spec_l6Pattern.l0 kj1 a0 (wrap64 (x3_1 + 1))) else (if (bt a0 x3_1) < 97 then (some false) else (if (bt a0 x3_1) > 122 then (some false) else (spec_l6Pattern.l0 kj1 a0 (wrap64 (x3_1 + 1))))))) else (none)) else (none)) = some r := by rw [if_pos rfl] at H; exact H
            clear H
            have H := H1
            clear H1
            by_cases c5 : 0 ≤ x3_1
            · rw [if_pos c5] at H
              have c5b0 : decide (0 ≤ x3_1) = true := decide_eq_true c5
              clear c5
              by_cases c6 : x3_1 < (a0.size : Int)
              · rw [if_pos c6] at H
                have c6b0 : decide (x3_1 < (a0.size : Int)) = true := decide_eq_true c6
                clear c6
                by_cases c8 : (bt a0 x3_1) = 63
                · rw [if_pos c8] at H
                  have c8b0 : ((bt a0 x3_1) == 63) = true := beq_iff_eq.mpr c8
                  have c8b1 : ((bt a0 x3_1) != 63) = false := bne_eq_false_iff_eq.mpr c8
                  clear c8
                  have H' := Aside0.mk H
                  clear H
                  have p7 : 0 ≤ (x3_1 : Int) := of_decide_eq_true (by first | (with_reducible assumption) | assumption)
                  have q7 : x3_1 < (a0.size : Int) := of_decide_eq_true (by first | (with_reducible assumption) | assumption)
                  have hx7 := bt_at a0 x3_1
                  replace p7 := eq_true p7
                  replace q7 := eq_true q7
                  go_wp2
                  go_roundg kj1
                  case measure => have := HK1.out; have := HJ1.out; omega
                  case rel => exact ⟨(wrap64 (x3_1 + 1)), (by first | rfl | (simp; done) | (simp [*]; done)), H', ⟨by have := HK1.out; have := HJ1.out; omega⟩, by repeat (first | exact Drawn0.refl _ | apply Drawn0.step)⟩
                · rw [if_neg c8] at H
                  have c8b0 : ((bt a0 x3_1) == 63) = false := beq_eq_false_iff_ne.mpr c8
                  have c8b1 : ((bt a0 x3_1) != 63) = true := bne_iff_ne.mpr c8
                  by_cases c10 : (bt a0 x3_1) = 42
                  · rw [if_pos c10] at H
                    have c10b0 : ((bt a0 x3_1) == 42) = true := beq_iff_eq.mpr c10
                    have c10b1 : ((bt a0 x3_1) != 42) = false := bne_eq_false_iff_eq.mpr c10
                    clear c10
                    have H' := Aside0.mk H
                    clear H
                    have p7 : 0 ≤ (x3_1 : Int) := of_decide_eq_true (by first | (with_reducible assumption) | assumption)
                    have q7 : x3_1 < (a0.size : Int) := of_decide_eq_true (by first | (with_reducible assumption) | assumption)
                    have hx7 := bt_at a0 x3_1
                    replace p7 := eq_true p7
                    replace q7 := eq_true q7
                    have p9 : 0 ≤ (x3_1 : Int) := of_decide_eq_true (by first | (with_reducible assumption) | assumption)
                    have q9 : x3_1 < (a0.size : Int) := of_decide_eq_true (by first | (with_reducible assumption) | assumption)
                    have hx9 := bt_at a0 x3_1
                    replace p9 := eq_true p9
                    replace q9 := eq_true q9
                    go_wp2
                    go_roundg kj1
                    case measure => have := HK1.out; have := HJ1.out; omega
                    case rel => exact ⟨(wrap64 (x3_1 + 1)), (by first | rfl | (simp; done) | (simp [*]; done)), H', ⟨by have := HK1.out; have := HJ1.out; omega⟩, by repeat (first | exact Drawn0.refl _ | apply Drawn0.step)⟩
                  · rw [if_neg c10] at H
                    have c10b0 : ((bt a0 x3_1) == 42) = false := beq_eq_false_iff_ne.mpr c10
                    have c10b1 : ((bt a0 x3_1) != 42) = true := bne_iff_ne.mpr c10
                    by_cases c12 : (bt a0 x3_1) < 97
                    · rw [if_pos c12] at H
                      have c12b0 : decide ((bt a0 x3_1) < 97) = true := decide_eq_true c12
                      clear c12
                      obtain rfl := Option.some.inj H
                      have p7 : 0 ≤ (x3_1 : Int) := of_decide_eq_true (by first | (with_reducible assumption) | assumption)
                      have q7 : x3_1 < (a0.size : Int) := of_decide_eq_true (by first | (with_reducible assumption) | assumption)
                      have hx7 := bt_at a0 x3_1
                      replace p7 := eq_true p7
                      replace q7 := eq_true q7
                      have p9 : 0 ≤ (x3_1 : Int) := of_decide_eq_true (by first | (with_reducible assumption) | assumption)
                      have q9 : x3_1 < (a0.size : Int) := of_decide_eq_true (by first | (with_reducible assumption) | assumption)
                      have hx9 := bt_at a0 x3_1
                      replace p9 := eq_true p9
                      replace q9 := eq_true q9
                      have p11 : 0 ≤ (x3_1 : Int) := of_decide_eq_true (by first | (with_reducible assumption) | assumption)
                      have q11 : x3_1 < (a0.size : Int) := of_decide_eq_true (by first | (with_reducible assumption) | assumption)
                      have hx11 := bt_at a0 x3_1
                      replace p11 := eq_true p11
                      replace q11 := eq_true q11
                      go_wp2
                      go_ret
                      exact ⟨by first | rfl | (simp; done) | (simp [*]; done), by repeat (first | exact Drawn0.refl _ | apply Drawn0.step)⟩
                    · rw [if_neg c12] at H
                      have c12b0 : decide ((bt a0 x3_1) < 97) = false := decide_eq_false c12
                      clear c12
                      by_cases c14 : (bt a0 x3_1) > 122
                      · rw [if_pos c14] at H
                        have c14b0 : decide (122 < (bt a0 x3_1)) = true := decide_eq_true c14
                        clear c14
                        obtain rfl := Option.some.inj H
                        have p7 : 0 ≤ (x3_1 : Int) := of_decide_eq_true (by first | (with_reducible assumption) | assumption)
                        have q7 : x3_1 < (a0.size : Int) := of_decide_eq_true (by first | (with_reducible assumption) | assumption)
                        have hx7 := bt_at a0 x3_1
                        replace p7 := eq_true p7
                        replace q7 := eq_true q7
                        have p9 : 0 ≤ (x3_1 : Int) := of_decide_eq_true (by first | (with_reducible assumption) | assumption)
                        have q9 : x3_1 < (a0.size : Int) := of_decide_eq_true (by first | (with_reducible assumption) | assumption)
                        have hx9 := bt_at a0 x3_1
                        replace p9 := eq_true p9
                        replace q9 := eq_true q9
                        have p11 : 0 ≤ (x3_1 : Int) := of_decide_eq_true (by first | (with_reducible assumption) | assumption)
                        have q11 : x3_1 < (a0.size : Int) := of_decide_eq_true (by first | (with_reducible assumption) | assumption)
                        have hx11 := bt_at a0 x3_1
                        replace p11 := eq_true p11
                        replace q11 := eq_true q11
                        have p13 : 0 ≤ (x3_1 : Int) := of_decide_eq_true (by first | (with_reducible assumption) | assumption)
                        have q13 : x3_1 < (a0.size : Int) := of_decide_eq_true (by first | (with_reducible assumption) | assumption)
                        have hx13 := bt_at a0 x3_1
                        replace p13 := eq_true p13
                        replace q13 := eq_true q13
                        go_wp2
                        go_ret
                        exact ⟨by first | rfl | (simp; done) | (simp [*]; done), by repeat (first | exact Drawn0.refl _ | apply Drawn0.step)⟩
                      · rw [if_neg c14] at H
                        have c14b0 : decide (122 < (bt a0 x3_1)) = false := decide_eq_false c14
                        clear c14
                        have H' := Aside0.mk H
                        clear H
                        have p7 : 0 ≤ (x3_1 : Int) := of_decide_eq_true (by first | (with_reducible assumption) | assumption)
                        have q7 : x3_1 < (a0.size : Int) := of_decide_eq_true (by first | (with_reducible assumption) | assumption)
                        have hx7 := bt_at a0 x3_1
                        replace p7 := eq_true p7
                        replace q7 := eq_true q7
                        have p9 : 0 ≤ (x3_1 : Int) := of_decide_eq_true (by first | (with_reducible assumption) | assumption)
                        have q9 : x3_1 < (a0.size : Int) := of_decide_eq_true (by first | (with_reducible assumption) | assumption)
                        have hx9 := bt_at a0 x3_1
                        replace p9 := eq_true p9
                        replace q9 := eq_true q9
                        have p11 : 0 ≤ (x3_1 : Int) := of_decide_eq_true (by first | (with_reducible assumption) | assumption)
                        have q11 : x3_1 < (a0.size : Int) := of_decide_eq_true (by first | (with_reducible assumption) | assumption)
                        have hx11 := bt_at a0 x3_1
                        replace p11 := eq_true p11
                        replace q11 := eq_true q11
                        have p13 : 0 ≤ (x3_1 : Int) := of_decide_eq_true (by first | (with_reducible assumption) | assumption)
                        have q13 : x3_1 < (a0.size : Int) := of_decide_eq_true (by first | (with_reducible assumption) | assumption)
                        have hx13 := bt_at a0 x3_1
                        replace p13 := eq_true p13
                        replace q13 := eq_true q13
                        go_wp2
                        go_roundg kj1
                        case measure => have := HK1.out; have := HJ1.out; omega
                        case rel => exact ⟨(wrap64 (x3_1 + 1)), (by first | rfl | (simp; done) | (simp [*]; done)), H', ⟨by have := HK1.out; have := HJ1.out; omega⟩, by repeat (first | exact Drawn0.refl _ | apply Drawn0.step)⟩
              · rw [if_neg c6] at H
                exact absurd H (by simp)
            · rw [if_neg c5] at H
              exact absurd H (by simp)
          · replace c4 := Bool.eq_false_iff.mpr c4
            subst c4
            have H1 : (some (decide ((a0.size : Int) ≤ 14))) = some r := by rw [if_neg (show ¬ (false = true) by decide)] at H; exact H
            clear H
            have H := H1
            clear H1
            obtain rfl := Option.some.inj H
            go_wp2
            go_ret
            exact ⟨by first | rfl | (simp; done) | (simp [*]; done), by repeat (first | exact Drawn0.refl _ | apply Drawn0.step)⟩
def spec_IsPattern.f (k : Nat) (a0 : ByteArray) : Option (Bool) := (spec_l6Pattern.f k a0).bind fun t101 => (some t101)
set_option maxHeartbeats 8000000 in
set_option maxRecDepth 100000 in
theorem spec_IsPattern.calls (k : Nat) (a0 : ByteArray) (r : Bool) (w : World) (h : spec_IsPattern.f k a0 = some r) :
    Calls Tryd.prog 18 #[.string a0] w fun e w' => e = .returned (.bool r) ∧ Drawn0 w w' := by
  have H : ((spec_l6Pattern.f k a0).bind fun t101 => (some t101)) = some r := h
  clear h
  replace H := Option.bind_eq_some_iff.mp H
  obtain ⟨t101, A20, H⟩ := H
  replace H : (some t101) = some r := H
  have A2 := Aside0.mk A20
  clear A20
  obtain rfl := Option.some.inj H
  go_enter Tryd.func18, Tryd.ntmps18
  go_wp2_with (first | ((with_reducible refine gate_callee (f := 42) rfl ?_); refine goesL_ (some 4) rfl rfl Tryd.func42 (by kernel_rfl) rfl #[.string a0] rfl (by (try simp only [List.map_toArray, List.map_cons, List.map_nil]); first | done | rfl | (simp only [List.length_drop, List.length_take]; rfl)) ?_; (with_reducible refine (spec_l6Pattern.calls k a0 t101 _ A2.out).mono ?_); rintro e w' ⟨rfl, ⟨nd, rfl⟩⟩; refine ⟨_, rfl, ?_⟩))
  go_ret
  exact ⟨by first | rfl | (simp; done) | (simp [*]; done), by repeat (first | exact Drawn0.refl _ | apply Drawn0.step)⟩
end Go.Proofs.YtklddfkhbhkhdaaDoor.Q
namespace Go.Proofs.YtklddfkhbhkhdaaDoor.Q
open Go.RowKit Go.Proofs.YtklddfkhbhkhdaaDoorW.PrintWords Go.Proofs.YtklddfkhbhkhdaaDoorW.PrintLast Go.Proofs.YtklddfkhbhkhdaaDoorW.PrintMore
set_option linter.unusedVariables false
def RB (W : World) (B : Nat) (d s : Int) (r on : Value) : Prop := W.heap[B]? = some (.cells #[.int .u32 d, .int .i32 s, .int .u32 0, r, on] 96 (0, 0))
structure RBc (W : World) (B : Nat) (d s : Int) (r on : Value) : Prop where
  c0 : W.cell? ⟨B, 0, none⟩ = some (.int .u32 d)
  c1 : W.cell? ⟨B, 1, none⟩ = some (.int .i32 s)
  c3 : W.cell? ⟨B, 3, none⟩ = some r
  c4 : W.cell? ⟨B, 4, none⟩ = some on
  f0 : W.frozen? ⟨B, 0, none⟩ = false
  f1 : W.frozen? ⟨B, 1, none⟩ = false
  f3 : W.frozen? ⟨B, 3, none⟩ = false
  f4 : W.frozen? ⟨B, 4, none⟩ = false
theorem RB.cells {W : World} {B : Nat} {d s : Int} {r on : Value} (h : RB W B d s r on) : RBc W B d s r on := by
  unfold RB at h
  refine ⟨?_, ?_, ?_, ?_, ?_, ?_, ?_, ?_⟩ <;> simp [World.cell?, World.frozen?, h]
theorem RB.set0 {W : World} {B : Nat} {d s : Int} {r on : Value} (h : RB W B d s r on) (x : Int) : RB (W.setCell ⟨B, 0, none⟩ (.int .u32 x)) B x s r on := blk_put h 0 _ rfl
theorem RB.set1 {W : World} {B : Nat} {d s : Int} {r on : Value} (h : RB W B d s r on) (x : Int) : RB (W.setCell ⟨B, 1, none⟩ (.int .i32 x)) B d x r on := blk_put h 1 _ rfl
theorem RB.set3 {W : World} {B : Nat} {d s : Int} {r on : Value} (h : RB W B d s r on) (x : Value) : RB (W.setCell ⟨B, 3, none⟩ x) B d s x on := blk_put h 3 _ rfl
theorem RB.set4 {W : World} {B : Nat} {d s : Int} {r on : Value} (h : RB W B d s r on) (x : Value) : RB (W.setCell ⟨B, 4, none⟩ x) B d s r x := blk_put h 4 _ rfl
theorem race_disable (w : World) : (callFunc 139 #[]).run Tryd.prog w = .ok (.value (.tuple #[])) w := run_call_mark0 Tryd.func139 (by kernel_rfl) (by kernel_rfl) (by kernel_rfl) .disable (by kernel_rfl) w
theorem race_enable (w : World) : (callFunc 141 #[]).run Tryd.prog w = .ok (.value (.tuple #[])) w := run_call_mark0 Tryd.func141 (by kernel_rfl) (by kernel_rfl) (by kernel_rfl) .enable (by kernel_rfl) w
theorem race_acquire (a : Addr) (w : World) : (callFunc 142 #[.pointer (some a)]).run Tryd.prog w = .ok (.value (.tuple #[])) w := run_call_marked Tryd.func142 (by kernel_rfl) (by kernel_rfl) (by kernel_rfl) .acquire (by kernel_rfl) a w
theorem race_release (a : Addr) (w : World) : (callFunc 144 #[.pointer (some a)]).run Tryd.prog w = .ok (.value (.tuple #[])) w := run_call_marked Tryd.func144 (by kernel_rfl) (by kernel_rfl) (by kernel_rfl) .releaseMerge (by kernel_rfl) a w
set_option maxRecDepth 100000 in
set_option maxHeartbeats 1600000 in
theorem lock_in (a : Addr) (w : World) (hc : w.cell? a = some (.int .i32 0)) (hz : w.frozen? a = false) :
    Calls Tryd.prog 129 #[.pointer (some a)] w fun e w' => e = .returned (.tuple #[]) ∧ w' = w.setCell a (.int .i32 1) := by
  have hd := race_disable
  have he := race_enable
  have ha := race_acquire
  have hcas := run_call_cas_hit (P := Tryd.prog) Tryd.func140 (by kernel_rfl) (by kernel_rfl) (by kernel_rfl) .i32 (by kernel_rfl) (y := 1) hc hz
  have hc' : (w.setCell a (.int .i32 1)).cell? a = some (.int .i32 1) := World.cell?_setCell_same w a _ hc
  have hcv := run_convert_to_unsafe (P := Tryd.prog) (src := 178) (dst := 115) Tryd.underlying178 Tryd.underlying115 (by kernel_rfl) hc'
  go_enter Tryd.func129, Tryd.ntmps129
  go_wp2
  first | go_end0 | (simp only [Exit.inBlock, Exit.then]; refine bodyPost_ret (results_none rfl _ _ _) rfl ?_) | refine bodyPost_ret (results_none rfl _ _ _) rfl ?_
  go_wp2
theorem lock_free (a : Addr) (w : World) (hc : w.cell? a = some (.int .i32 0)) (hz : w.frozen? a = false) :
    Calls Tryd.prog 115 #[.pointer (some a)] w fun e w' => e = .returned (.tuple #[]) ∧ w' = w.setCell a (.int .i32 1) := by
  go_enter Tryd.func115, Tryd.ntmps115
  go_wp2_with (go_at_call 129; refine (lock_in a _ hc hz).mono ?_; rintro e w' ⟨rfl, rfl⟩)
  go_end0
  exact ⟨rfl, rfl⟩
set_option maxRecDepth 100000 in
set_option maxHeartbeats 1600000 in
theorem unlock_in (a : Addr) (w : World) (hc : w.cell? a = some (.int .i32 1)) (hz : w.frozen? a = false) :
    Calls Tryd.prog 130 #[.pointer (some a)] w fun e w' => e = .returned (.tuple #[]) ∧ w' = w.setCell a (.int .i32 0) := by
  have hd := race_disable
  have he := race_enable
  have hr := race_release
  have hadd := run_call_add (P := Tryd.prog) Tryd.func145 (by kernel_rfl) (by kernel_rfl) (by kernel_rfl) .i32 (by kernel_rfl) (y := -1) (s := 0) hc hz (by simp [go_sem]; rfl)
  have hcv := run_convert_to_unsafe (P := Tryd.prog) (src := 178) (dst := 115) Tryd.underlying178 Tryd.underlying115 (by kernel_rfl) hc
  go_enter Tryd.func130, Tryd.ntmps130
  go_wp2
  go_end0
  go_wp2
theorem unlock_deferred (a : Addr) (u : FrameMode) (w : World) (hc : w.cell? a = some (.int .i32 1)) (hz : w.frozen? a = false) :
    CallsD Tryd.prog 116 #[.pointer (some a)] u w fun e u' w' => u' = u ∧ (e = .returned (.tuple #[]) ∧ w' = w.setCell a (.int .i32 0)) := by
  go_enter_d Tryd.func116, Tryd.ntmps116
  go_wp2_with (go_at_call 130; refine (unlock_in a _ hc hz).mono ?_; rintro e w' ⟨rfl, rfl⟩)
  go_end0
  exact ⟨rfl, rfl⟩
theorem store_deferred (a : Addr) (x : Value) (u : FrameMode) (w : World) (hc : w.cell? a = some x) (hz : w.frozen? a = false) :
    CallsD Tryd.prog 117 #[.pointer (some a), .bool true] u w fun e u' w' => u' = u ∧ (e = .returned (.tuple #[]) ∧ w' = w.drew.setCell a (.int .u32 1)) := by
  have hc' : w.drew.cell? a = some x := by go_simp
  have hz' : w.drew.frozen? a = false := by go_simp
  have hst := run_call_store (P := Tryd.prog) Tryd.func131 (by kernel_rfl) (by kernel_rfl) (by kernel_rfl) (by kernel_rfl) (k := .u32) (y := 1) hc' hz'
  go_enter_d Tryd.func117, Tryd.ntmps117
  go_wp2
  go_region_calls
  all_goals (go_end0; exact ⟨rfl, rfl⟩)
def Makes (B base : Nat) (w : World) (T : World → Value → Prop) : Prop :=
  Calls Tryd.prog 75 #[.pointer (some ⟨B, 0, none⟩)] (w.setCell ⟨B, 1, none⟩ (.int .i32 1)) fun e W' => e = .returned (.tuple #[]) ∧ ∃ r' on', RB W' B 0 1 r' on' ∧ T W' r' ∧ Below base w W'
set_option maxRecDepth 100000 in
set_option maxHeartbeats 1600000 in
theorem slow_first (B base : Nat) (w : World) (r on : Value) (T : World → Value → Prop) (hB : base ≤ B) (h : RB w B 0 0 r on) (hf : Makes B base w T) (hT : ∀ W j u r', T W r' → T (W.setCell ⟨B, j, none⟩ u) r') (hTd : ∀ W r', T W r' → T W.drew r') :
    Calls Tryd.prog 99 #[.pointer (some ⟨B, 0, none⟩), .func (.func 75) #[.pointer (some ⟨B, 0, none⟩)] #[]] w fun e w' => e = .returned (.tuple #[]) ∧ ∃ r' on', RB w' B 1 0 r' on' ∧ T w' r' ∧ Below base w w' := by
  have HC := Aside0.mk h.cells
  have H1 := Aside0.mk (h.set1 1)
  have HF := Aside0.mk hf
  clear h
  unfold Makes at HF
  clear hf
  have hl := run_call_load (P := Tryd.prog) Tryd.func114 (by kernel_rfl) (by kernel_rfl) (by kernel_rfl) .u32 (by kernel_rfl) H1.out.cells.c0
  have hnot : ∀ (x : Bool) (w : World), (Op.unary .not (.bool x)).run Tryd.prog w = .ok (.bool (!x)) w := fun _ _ => rfl
  go_enter_defers Tryd.func99, Tryd.ntmps99
  go_wp2_with (first
    | (go_at_call 115; refine (lock_free ⟨B, 1, none⟩ _ HC.out.c1 HC.out.f1).mono ?_; rintro e w' ⟨rfl, rfl⟩)
    | (go_at_call 75; refine HF.out.mono ?_; rintro e w2 ⟨rfl, r2, on2, hr2, ht2, hb2⟩)
    | (go_at_call 98; go_in))
  have HR2 := Aside0.mk hr2
  have HT2 := Aside0.mk ht2
  have HB2 := Aside0.mk hb2
  clear hr2 ht2 hb2
  refine leaves_cons (f := 117) (args := #[.pointer (some ⟨B, 0, none⟩), .bool true]) (by simp) (by simp [go_sem]) ?_
  refine (store_deferred ⟨B, 0, none⟩ (.int .u32 0) .returning _ HR2.out.cells.c0 HR2.out.cells.f0).mono ?_
  rintro e u' w3 ⟨rfl, rfl, rfl⟩
  have H3 : RB (w2.drew.setCell ⟨B, 0, none⟩ (.int .u32 1)) B 1 1 r2 on2 := (show RB w2.drew B 0 1 r2 on2 from HR2.out).set0 1
  refine leaves_cons (f := 116) (args := #[.pointer (some ⟨B, 1, none⟩)]) (by simp [settle]) (by simp [go_sem]) ?_
  refine (unlock_deferred ⟨B, 1, none⟩ _ _ H3.cells.c1 H3.cells.f1).mono ?_
  rintro e u' w3 ⟨rfl, rfl, rfl⟩
  have H4 := H3.set1 0
  have HT4 := hT _ 1 (.int .i32 0) _ (hT _ 0 (.int .u32 1) _ (hTd _ _ HT2.out))
  have HB4 := ((HB2.out.drew).setCell (p := ⟨B, 0, none⟩) hB (.int .u32 1)).setCell (p := ⟨B, 1, none⟩) hB (.int .i32 0)
  simp [Leaves, settle, results, Tryd.results99]
  exact ⟨r2, ⟨on2, H4⟩, HT4, HB4⟩
set_option maxRecDepth 100000 in
set_option maxHeartbeats 1600000 in
theorem once_do (B base : Nat) (w : World) (r on : Value) (T : World → Value → Prop) (hB : base ≤ B) (h : RB w B 0 0 r on) (hf : Makes B base w T) (hT : ∀ W j u r', T W r' → T (W.setCell ⟨B, j, none⟩ u) r') (hTd : ∀ W r', T W r' → T W.drew r') :
    Calls Tryd.prog 74 #[.pointer (some ⟨B, 0, none⟩), .func (.func 75) #[.pointer (some ⟨B, 0, none⟩)] #[]] w fun e w' => e = .returned (.tuple #[]) ∧ ∃ r' on', RB w' B 1 0 r' on' ∧ T w' r' ∧ Below base w w' := by
  have HS := Aside0.mk (slow_first B base w r on T hB h hf hT hTd)
  have hl := run_call_load (P := Tryd.prog) Tryd.func114 (by kernel_rfl) (by kernel_rfl) (by kernel_rfl) .u32 (by kernel_rfl) h.cells.c0
  clear hf h hT hTd
  have hnot : ∀ (x : Bool) (w : World), (Op.unary .not (.bool x)).run Tryd.prog w = .ok (.bool (!x)) w := fun _ _ => rfl
  go_enter Tryd.func74, Tryd.ntmps74
  go_wp2_with (first
    | (go_at_call 99; refine HS.out.mono ?_; rintro e w2 ⟨rfl, hr⟩)
    | (go_at_call 98; go_in))
  go_end0
  exact ⟨rfl, hr⟩
end Go.Proofs.YtklddfkhbhkhdaaDoor.Q
namespace Go.Proofs.YtklddfkhbhkhdaaDoor.Q
open Go.RowKit Go.Proofs.YtklddfkhbhkhdaaDoorW.PrintWords Go.Proofs.YtklddfkhbhkhdaaDoorW.PrintLast Go.Proofs.YtklddfkhbhkhdaaDoorW.PrintMore
set_option linter.unusedVariables false
def nilS : Value := .slice none 0 0
def BT (e42 e63 tr : Value) : Array Value := (((List.range 256).map fun i => if i = 63 then e63 else if i = 42 then e42 else .slice none 0 0) ++ [tr]).toArray
theorem BT_size (a b c : Value) : (BT a b c).size = 257 := by simp [BT]
theorem BT_at (a b c : Value) (i : Nat) (h : i < 256) : (BT a b c)[i]? = some (if i = 63 then b else if i = 42 then a else .slice none 0 0) := by
  unfold BT
  rw [List.getElem?_toArray, List.getElem?_append_left (by simpa using h)]
  simp [h]
theorem BT_last (a b c : Value) : (BT a b c)[256]? = some c := by
  unfold BT
  rw [List.getElem?_toArray, List.getElem?_append_right (by simp)]
  simp
theorem BT_ext {a b c : Value} {x : Array Value} (hs : x.size = 257) (h : ∀ i, i < 256 → x[i]? = some (if i = 63 then b else if i = 42 then a else .slice none 0 0)) (hl : x[256]? = some c) : x = BT a b c := by
  apply Array.ext
  · rw [hs, BT_size]
  · intro i h1 h2
    have e : x[i]? = (BT a b c)[i]? := by
      by_cases hi : i < 256
      · rw [h i hi, BT_at a b c i hi]
      · obtain rfl : i = 256 := by omega
        rw [hl, BT_last]
    rw [Array.getElem?_eq_getElem h1, Array.getElem?_eq_getElem h2] at e
    exact Option.some.inj e
theorem BT_set63 (a b c v : Value) : (BT a b c).setIfInBounds 63 v = BT a v c := by
  refine BT_ext (by rw [Array.size_setIfInBounds, BT_size]) (fun i hi => ?_) ?_
  · rw [Array.getElem?_setIfInBounds, BT_at a b c i hi, BT_size]
    by_cases e : i = 63
    · subst e; simp
    · rw [if_neg (fun h => e h.symm), if_neg e, if_neg e]
  · rw [Array.getElem?_setIfInBounds, BT_last]; simp
theorem BT_set42 (a b c v : Value) : (BT a b c).setIfInBounds 42 v = BT v b c := by
  refine BT_ext (by rw [Array.size_setIfInBounds, BT_size]) (fun i hi => ?_) ?_
  · rw [Array.getElem?_setIfInBounds, BT_at a b c i hi, BT_size]
    by_cases e : 42 = i
    · subst e; simp
    · rw [if_neg e]
      by_cases e2 : i = 63
      · rw [if_pos e2, if_pos e2]
      · rw [if_neg e2, if_neg e2, if_neg (fun h => e h.symm), if_neg (fun h => e h.symm)]
  · rw [Array.getElem?_setIfInBounds, BT_last]; simp
theorem BT_set256 (a b c v : Value) : (BT a b c).setIfInBounds 256 v = BT a b v := by
  refine BT_ext (by rw [Array.size_setIfInBounds, BT_size]) (fun i hi => ?_) ?_
  · rw [Array.getElem?_setIfInBounds, BT_at a b c i hi, if_neg (by omega)]
  · rw [Array.getElem?_setIfInBounds, BT_size]; simp
def TB (W : World) (b : Nat) (e42 e63 tr : Value) : Prop := W.heap[b]? = some (.cells (BT e42 e63 tr) 148 (0, 0))
theorem TB.cell {W : World} {b : Nat} {x y tr : Value} (h : TB W b x y tr) (i : Nat) (hi : i < 256) : W.cell? ⟨b, i, none⟩ = some (if i = 63 then y else if i = 42 then x else .slice none 0 0) := by
  unfold TB at h
  simp only [World.cell?, h]
  exact BT_at x y tr i hi
theorem TB.last {W : World} {b : Nat} {x y tr : Value} (h : TB W b x y tr) : W.cell? ⟨b, 256, none⟩ = some tr := by
  unfold TB at h
  simp only [World.cell?, h]
  exact BT_last x y tr
theorem TB.frozen {W : World} {b : Nat} {x y tr : Value} (h : TB W b x y tr) (i : Nat) : W.frozen? ⟨b, i, none⟩ = false := by
  unfold TB at h
  simp [World.frozen?, h]
theorem TB.set63 {W : World} {b : Nat} {x y tr : Value} (h : TB W b x y tr) (v : Value) : TB (W.setCell ⟨b, 63, none⟩ v) b x v tr := blk_put h 63 v (BT_set63 x y tr v)
theorem TB.set42 {W : World} {b : Nat} {x y tr : Value} (h : TB W b x y tr) (v : Value) : TB (W.setCell ⟨b, 42, none⟩ v) b v y tr := blk_put h 42 v (BT_set42 x y tr v)
theorem TB.set256 {W : World} {b : Nat} {x y tr : Value} (h : TB W b x y tr) (v : Value) : TB (W.setCell ⟨b, 256, none⟩ v) b x y v := blk_put h 256 v (BT_set256 x y tr v)
theorem built148 (a : Option Addr) : Tryd.prog.built 148 [(1, .slice a 0 2)] = some (BT nilS nilS (.slice a 0 2)) := by kernel_rfl
theorem zero148 : (Tryd.prog.info? 148).map (fun i => (i.zero, i.size)) = some (some (.agg (BT nilS nilS nilS)), 257) := by kernel_rfl
theorem build148 (W : World) (a : Option Addr) : (Instr.build 148 #[(1, .slice a 0 2)]).run Tryd.prog W = .ok (.agg (BT nilS nilS (.slice a 0 2))) W := run_build W 148 _ _ (built148 a)
theorem alloc148 (W : World) : (Instr.alloc 148 true (.tuple #[])).run Tryd.prog W = .ok (.pointer (some ⟨W.heap.size, 0, none⟩)) (W.alloc (.cells (BT nilS nilS nilS) 148)) := by
  obtain ⟨i, hi, hz⟩ := Option.map_eq_some_iff.1 zero148
  have hz1 : i.zero = some (.agg (BT nilS nilS nilS)) := congrArg Prod.fst hz
  clear hz
  generalize BT nilS nilS nilS = Z at hz1 ⊢
  simp [Instr.alloc, zeroValue, typeInfo, hi, hz1, newVar, newRow, Value.cells]
theorem BT_one (x y z : Value) (hx : x.oneCell' = true) (hy : y.oneCell' = true) (hz : z.oneCell' = true) : (BT x y z).all (·.oneCell') = true := by
  unfold BT
  refine all_oneCell_toArray (fun v hv => ?_)
  rcases List.mem_append.1 hv with hv | hv
  · obtain ⟨i, _, rfl⟩ := List.mem_map.1 hv
    split
    · exact hy
    · split
      · exact hx
      · rfl
  · rw [List.mem_singleton.1 hv]; exact hz
theorem exec_build {o : Oper} {a : Act} {W : World} (x : Option Addr) (ho : o.op = .build 148 #[(1, .tmp 94)]) (hx : a.eval (.tmp 94) = .slice x 0 2) : (execOp a.eval o).run Tryd.prog W = .ok (.value (.agg (BT nilS nilS (.slice x 0 2)))) W := by
  have h := build148 W x
  unfold execOp
  simp only [ho, hx, List.map_toArray, List.map_cons, List.map_nil, Sem.run_bind]
  rw [h]
  rfl
theorem exec_alloc {o : Oper} {a : Act} {W : World} (ho : o.op = .alloc 148) : (execOp a.eval o).run Tryd.prog W = .ok (.value (.pointer (some ⟨W.heap.size, 0, none⟩))) (W.alloc (.cells (BT nilS nilS nilS) 148)) := by
  have h := alloc148 W
  unfold execOp
  simp only [ho, Sem.run_bind]
  rw [h]
  rfl
theorem exec_alloc2 {o : Oper} {a : Act} {w : World} {ob : Obj} (ho : o.op = .alloc 148) : (execOp a.eval o).run Tryd.prog (w.alloc ob) = .ok (.value (.pointer (some ⟨w.heap.size + 1, 0, none⟩))) ((w.alloc ob).alloc (.cells (BT nilS nilS nilS) 148)) := by
  have h := exec_alloc (a := a) (W := w.alloc ob) ho
  rwa [World.size_alloc] at h
theorem there_TB {W : World} {b : Nat} {x y z : Value} (h : TB W b x y z) : W.there b 0 257 := fun j hj => by
  refine ⟨?_, h.frozen _⟩
  rw [Nat.zero_add]
  by_cases e : j < 256
  · rw [h.cell j e]; rfl
  · obtain rfl : j = 256 := by omega
    rw [h.last]; rfl
theorem exec_store {o : Oper} {a : Act} {W : World} {b : Nat} {x y z x' y' z' : Value} (ho : o.op = .store 148 (.tmp 11) (.tmp 95)) (hp : a.eval (.tmp 11) = .pointer (some ⟨b, 0, none⟩)) (hv : a.eval (.tmp 95) = .agg (BT x y z)) (h : TB W b x' y' z')
    (hx : x.oneCell' = true) (hy : y.oneCell' = true) (hz : z.oneCell' = true) : (execOp a.eval o).run Tryd.prog W = .ok .skip (W.setCells b 0 (BT x y z).toList) := by
  have hs : (Tryd.prog.info? 148).map (·.size) = some (BT x y z).size := by
    rw [BT_size]
    have := zero148
    cases hi : Tryd.prog.info? 148 with
    | none => rw [hi] at this; cases this
    | some i => rw [hi] at this; exact congrArg some (congrArg Prod.snd (Option.some.inj this))
  have h1 := run_storeAt_mid (P := Tryd.prog) W b 0 148 (BT x y z) (by rw [BT_size]; exact there_TB h) hs (BT_one x y z hx hy hz)
  unfold execOp
  simp only [ho, hp, hv, Sem.run_bind]
  rw [h1]
  rfl
theorem TB_store {W : World} {b : Nat} {x y z x' y' z' : Value} (h : TB W b x' y' z') : TB (W.setCells b 0 (BT x y z).toList) b x y z := by
  obtain ⟨cur, h1, h2, h3⟩ := setCells_row (BT x y z).toList 0 W _ h (by rw [Array.length_toList, BT_size, BT_size]; exact Nat.le_refl _)
  have e : cur = BT x y z := by
    apply Array.toList_inj.1
    rw [h3, List.take_zero, List.nil_append, List.drop_eq_nil_of_le (by rw [Nat.zero_add, Array.length_toList, Array.length_toList, BT_size, BT_size]; exact Nat.le_refl _), List.append_nil]
  unfold TB
  rw [h1, e]
theorem below_setCells {base b : Nat} {W0 W : World} (h : Below base W0 W) (hb : base ≤ b) (vs : List Value) (o : Nat) : Below base W0 (W.setCells b o vs) := by
  obtain ⟨h1, h2, h3, h4⟩ := setCells_same b vs o W
  exact ⟨h1.trans h.os, h2.trans h.tape, h3.trans h.output, by rw [h4]; exact h.size, fun k hk => (setCells_far vs o k (by omega)).trans (h.block k hk)⟩
structure Old (W : World) (O : Nat) : Prop where
  o0 : W.cell? ⟨O, 0, none⟩ = some (.string ⟨#[63]⟩)
  o1 : W.cell? ⟨O, 1, none⟩ = some (.string ⟨#[]⟩)
  o2 : W.cell? ⟨O, 2, none⟩ = some (.string ⟨#[42]⟩)
  o3 : W.cell? ⟨O, 3, none⟩ = some (.string ⟨#[]⟩)
theorem make02 (W : World) : (Instr.makeSlice 29 (.int .i64 0) (.int .i64 2)).run Tryd.prog W = .ok (.slice (some ⟨W.heap.size, 0, none⟩) 0 2) (W.alloc (.cells (madeCells #[.string ⟨#[]⟩] 2) 9)) := by
  have h9 : (Tryd.prog.info? 9).map (fun i => (i.zero, i.size, i.bytes)) = some (some (.string ⟨#[]⟩), 1, 16) := by kernel_rfl
  obtain ⟨i, hi, hz, hs, hb⟩ := info_parts h9
  have h := run_makeSlice (P := Tryd.prog) (w := W) 29 9 i (.string ⟨#[]⟩) Tryd.underlying29 hi hz .i64 .i64 0 2 (by decide) (by decide) (by rw [hs]; decide) (by rw [hb]; decide) (by decide)
  rw [hs] at h
  exact h
theorem tb_new (w : World) : TB (w.alloc (.cells (BT nilS nilS nilS) 148)) w.heap.size nilS nilS nilS := Go.heap_alloc_new w _
theorem tb_new2 (w : World) (o : Obj) : TB ((w.alloc o).alloc (.cells (BT nilS nilS nilS) 148)) (w.heap.size + 1) nilS nilS nilS := by
  have h := tb_new (w.alloc o)
  rwa [World.size_alloc] at h
theorem box_new1 (W : World) (v : Value) (t : TypeId) : (W.alloc (.cells #[v] t)).cell? ⟨W.heap.size, 0, none⟩ = some v := by
  have h := Go.heap_alloc_new W (.cells #[v] t)
  unfold World.cell?
  rw [h]
  rfl
theorem eql_nil (W : World) : (binOp .eql 25 (.slice none 0 0) (.slice none 0 0)).run Tryd.prog W = .ok (.bool true) W := run_eql_nil_slice W 25 5 none 0 0 0 0 Tryd.underlying25
theorem neq_nil (W : World) : (binOp .neq 25 (.slice none 0 0) (.slice none 0 0)).run Tryd.prog W = .ok (.bool false) W := run_neq_slice_nil_any W 25 5 none 0 0 0 0 Tryd.underlying25
theorem neq_some (W : World) (a : Addr) (n c : Nat) : (binOp .neq 25 (.slice (some a) n c) (.slice none 0 0)).run Tryd.prog W = .ok (.bool true) W := run_neq_slice_nil_any W 25 5 (some a) n c 0 0 Tryd.underlying25
def IsE (v : Value) : Prop := ∃ a c, v = .slice (some a) 0 c
theorem Old.below {W W' : World} {O : Nat} (h : Old W O) (hb : Below W.heap.size W W') : Old W' O := ⟨pw_cell_below hb h.o0, pw_cell_below hb h.o1, pw_cell_below hb h.o2, pw_cell_below hb h.o3⟩
structure St (w W : World) (b : Nat) (x y : Value) (zs : List ByteArray) : Prop where
  below : Below w.heap.size w W
  tab : ∃ tr, TB W b x y tr ∧ Kd.R Kd.string 9 W w.heap.size (fun _ => True) tr zs
  hb : w.heap.size ≤ b
theorem TB.grown {W w1 : World} {o : Obj} {b : Nat} {x y tr : Value} {row : Option Nat} (h : TB W b x y tr) (hg : (W.alloc o).grownBy w1 row) (hne : some b ≠ row) : TB w1 b x y tr := by
  have hl := blk_lt h
  unfold TB
  rw [hg.block b (by simp; omega) hne]
  exact (((Below.refl W.heap.size W).alloc (Nat.le_refl _) o).block b hl).trans h
theorem TB.below {W w1 : World} {b : Nat} {x y tr : Value} (h : TB W b x y tr) (hb : Below W.heap.size W w1) : TB w1 b x y tr := (hb.block b (blk_lt h)).trans h
theorem R_tab {W : World} {b base j : Nat} {x y tr v u : Value} {zs : List ByteArray} (h : Kd.R Kd.string 9 W base (fun _ => True) v zs) (hT : TB W b x y tr) : Kd.R Kd.string 9 (W.setCell ⟨b, j, none⟩ u) base (fun _ => True) v zs :=
  Kd.R_set h hT (fun q hq => by
    have : q = 9 := by simpa [Kd.string, Kd.scalar] using hq
    rw [this]; decide) j u
theorem st_start (w : World) : St w (((w.alloc (.cells (madeCells #[.string ⟨#[]⟩] 2) 9)).alloc (.cells (BT nilS nilS nilS) 148)).setCells (w.heap.size + 1) 0 (BT nilS nilS (.slice (some ⟨w.heap.size, 0, none⟩) 0 2)).toList) (w.heap.size + 1) nilS nilS [] := by
  have hT := TB_store (x := nilS) (y := nilS) (z := .slice (some ⟨w.heap.size, 0, none⟩) 0 2) (tb_new2 w (.cells (madeCells #[.string ⟨#[]⟩] 2) 9))
  refine ⟨below_setCells (((Below.refl w.heap.size w).alloc (Nat.le_refl _) _).alloc (by simp) _) (by omega) _ _, ⟨_, hT, ?_⟩, by omega⟩
  refine Kd.R_of_own ⟨by simp [encs], .inr ⟨w.heap.size, 2, madeCells #[.string ⟨#[]⟩] 2, rfl, Nat.le_refl _, ?_, Nat.zero_le _, by unfold maxLen; omega, by simp [size_madeCells], by simp [encs]⟩⟩ (fun _ _ => trivial)
  rw [setCells_far _ _ _ (by omega)]
  rw [((Below.refl (w.heap.size + 1) (w.alloc (.cells (madeCells #[.string ⟨#[]⟩] 2) 9))).alloc (by simp) _).block _ (by omega)]
  exact Go.heap_alloc_new w _
theorem conv_empty (W : World) : ∃ cap W', (convert 9 25 (.string ⟨#[]⟩)).run Tryd.prog W = .ok (.slice (some ⟨W.heap.size, 0, none⟩) 0 cap) W' ∧ Below W.heap.size W W' :=
  ⟨_, _, run_bytes_of_string W _ _ 5 ⟨#[]⟩ Tryd.underlying9 Tryd.underlying25 Tryd.underlying5, (Below.refl W.heap.size W).drew.alloc (Nat.le_refl _) _⟩
theorem conv_one (W : World) (g : Nat) (x : UInt8) (h : W.cell? ⟨g, 0, none⟩ = some (.int .u8 (x.toNat : Int))) : (convert 25 9 (.slice (some ⟨g, 0, none⟩) 1 1)).run Tryd.prog W = .ok (.string ⟨#[x]⟩) W :=
  run_convert_bytes_back (P := Tryd.prog) W 25 9 5 ⟨g, 0, none⟩ 1 [x] Tryd.underlying25 Tryd.underlying5 Tryd.underlying9 (fun j hj => by
    have : j = 0 := by simpa using hj
    subst this
    rw [Addr.add_mid]
    exact h)
set_option maxHeartbeats 1600000 in
set_option maxRecDepth 100000 in
theorem build_calls (B O cap : Nat) (w : World) (r : Value) (h : RB w B 0 1 r (.slice (some ⟨O, 0, none⟩) 4 cap)) (ho : Old w O) :
    Calls Tryd.prog 100 #[.pointer (some ⟨B, 0, none⟩)] w fun e w' => ∃ b x y, e = .returned (.iface 149 (.pointer (some ⟨b, 0, none⟩))) ∧ IsE x ∧ IsE y ∧ ∃ zs, zs.length = 2 ∧ St w w' b x y zs := by
  have hb4 := h.cells.c4
  have HO := Aside0.mk ho
  have h0 := ho.o0
  clear h ho
  go_enter Tryd.func100, Tryd.ntmps100
  go_wp2
  clear hb4 h0
  go_loopw [4, 5] (fun a i wr => w = wr ∧ ((a = .bool true ∧ i = .int .i64 0) ∨ (a = .bool false ∧ i = .int .i64 2) ∨ (a = .bool false ∧ i = .int .i64 4))) (fun _ i _ => 4 - (intOf i).toNat)
  case atStart => exact ⟨rfl, .inl ⟨rfl, rfl⟩⟩
  case round =>
    obtain ⟨rfl, hv⟩ := hrel
    have h0 := HO.out.o0
    have h1 := HO.out.o1
    have h2 := HO.out.o2
    have h3 := HO.out.o3
    rcases hv with ⟨rfl, rfl⟩ | ⟨rfl, rfl⟩ | ⟨rfl, rfl⟩
    · go_wp2
      exact ⟨⟨trivial, .inr (.inl ⟨rfl, rfl⟩)⟩, by simp [intOf]⟩
    · go_wp2
      exact ⟨⟨trivial, .inr (.inr ⟨rfl, rfl⟩)⟩, by simp [intOf]⟩
    · have hmk : ∀ W : World, (Instr.makeSlice 29 (.int .i64 0) (.int .i64 2)).run Tryd.prog W = .ok (.slice (some ⟨W.heap.size, 0, none⟩) 0 2) (W.alloc (.cells (madeCells #[.string ⟨#[]⟩] 2) 9)) := fun W => make02 W
      go_wp2_with (first
        | ((with_reducible refine gate_dst (N := 95) rfl ?_); refine Kd.event_run rfl (exec_build (some ⟨w.heap.size, 0, none⟩) rfl rfl) ?_)
        | ((with_reducible refine gate_dst (N := 11) rfl ?_); refine Kd.event_run rfl (exec_alloc2 rfl) ?_)
        | ((with_reducible refine gate_store (t := 148) (p := 11) rfl ?_); refine store_event (t := 148) (p := 11) (v := .tmp 95) (w1 := ((w.alloc (.cells (madeCells #[.string ⟨#[]⟩] 2) 9)).alloc (.cells (BT nilS nilS nilS) 148)).setCells (w.heap.size + 1) 0 (BT nilS nilS (.slice (some ⟨w.heap.size, 0, none⟩) 0 2)).toList) ?sg ?so ?sn ?sr ?_; (case so => rfl); (case sg => rfl); (case sn => rfl); (case sr => exact exec_store (b := w.heap.size + 1) (x := nilS) (y := nilS) (z := .slice (some ⟨w.heap.size, 0, none⟩) 0 2) (x' := nilS) (y' := nilS) (z' := nilS) rfl rfl rfl (tb_new2 _ _) rfl rfl rfl); intro w3 hw3; have HS := Aside0.mk (st_start w); rw [← hw3] at HS; clear hw3))
      clear hmk h0 h1 h2 h3
      have hO3 : Old w3 O := HO.out.below HS.out.below
      obtain ⟨b, hb⟩ : ∃ b, b = w.heap.size + 1 := ⟨_, rfl⟩
      simp only [← hb] at HS ⊢
      clear hb
      go_loopw [12] (fun i W => (i = .int .i64 2 ∧ Aside0 (St w W b nilS nilS [])) ∨ (i = .int .i64 0 ∧ ∃ x zs, Aside0 (IsE x ∧ zs.length = 1 ∧ St w W b x nilS zs)) ∨ (i = .int .i64 (-2) ∧ ∃ x y zs, Aside0 (IsE x ∧ IsE y ∧ zs.length = 2 ∧ St w W b x y zs))) (fun i _ => (intOf i + 2).toNat)
      case atStart => exact .inl ⟨rfl, HS⟩
      case round =>
        clear HS hO3
        rcases hrel with ⟨rfl, HS⟩ | ⟨rfl, x, zs, HS⟩ | ⟨rfl, x, y, zs, HS⟩
        · skip
          have hO := HO.out.below HS.out.below
          have h2 := hO.o2
          have h3 := hO.o3
          obtain ⟨tr, hT, hR⟩ := HS.out.tab
          have hc := hT.cell 42 (by omega)
          have hl := hT.last
          have hf := hT.frozen 256
          rw [if_neg (by omega), if_pos rfl] at hc
          simp only [nilS] at hc
          obtain ⟨A, c, rfl⟩ := Kd.R_slice hR
          have HT := Aside0.mk hT
          have HR := Aside0.mk hR
          clear hT hR hO
          have heq := eql_nil
          have hcv := conv_one (wr.alloc (.cells #[.int .u8 42] 5)) wr.heap.size 42 (box_new1 wr _ 5)
          have h42 : ((⟨#[42]⟩ : ByteArray)[0]'(by decide)).toNat = 42 := rfl
          go_wp2_with (at_builtin; refine Kd.R_append Kd.string (w0 := w) w.heap.size rfl _ _ 29 9 (.string ⟨#[]⟩) 16 rfl Tryd.underlying29 ?aI rfl (by decide) (by omega) (.slice A 0 c) [] (⟨#[42]⟩ : ByteArray) [.string ⟨#[42]⟩] (fun _ => True) (fun _ => False) rfl ?aX rfl (fun _ hk => hk.elim) (fun _ _ => trivial) ?aO ?aB ?aS ?aL ?_; (case aI => kernel_rfl); (case aX => simp [Act.eval]); (case aO => exact Kd.R_alloc HR.out _); (case aB => exact HS.out.below.alloc (by have := HS.out.below.size; omega) _); (case aS => have := HS.out.below.size; simp; omega); (case aL => simp); intro v1 wx hRx hBx hgx hatx; have hTx := HT.out.grown hgx (Kd.R_ne HR.out HT.out (by decide)); obtain ⟨Ax, cx, rfl⟩ := Kd.R_slice hRx; have hl1 := hTx.last; have hf1 := hTx.frozen 256; obtain ⟨ce, we, hce, hbe⟩ := conv_empty (wx.setCell ⟨b, 256, none⟩ (.slice Ax 1 cx)); have hTe := (hTx.set256 (.slice Ax 1 cx)).below hbe; have hle := hTe.cell 42 (by omega); have hfe := hTe.frozen 42; have HRe := Aside0.mk (Kd.R_below (R_tab (j := 256) (u := .slice Ax 1 cx) hRx hTx) hbe); have HBe := Aside0.mk ((hBx.setCell (p := ⟨b, 256, none⟩) HS.out.hb (.slice Ax 1 cx)).trans (hbe.mono (by have := hBx.size; simpa using this))); have HTe := Aside0.mk hTe; clear hRx hBx hgx hatx hTx hbe hTe)
          exact ⟨.inr (.inl ⟨rfl, _, [⟨#[42]⟩], ⟨⟨_, _, rfl⟩, rfl, ⟨HBe.out.setCell (p := ⟨b, 42, none⟩) HS.out.hb _, ⟨_, HTe.out.set42 _, R_tab HRe.out HTe.out⟩, HS.out.hb⟩⟩⟩), by simp [intOf]⟩
        · have HX := Aside0.mk HS.out.1
          obtain ⟨z1, rfl⟩ := List.length_eq_one_iff.1 HS.out.2.1
          have HS := Aside0.mk HS.out.2.2
          have hO := HO.out.below HS.out.below
          have h0 := hO.o0
          have h1 := hO.o1
          obtain ⟨tr, hT, hR⟩ := HS.out.tab
          have hc := hT.cell 63 (by omega)
          have hl := hT.last
          have hf := hT.frozen 256
          rw [if_pos rfl] at hc
          simp only [nilS] at hc
          obtain ⟨A, c, rfl⟩ := Kd.R_slice hR
          have HT := Aside0.mk hT
          have HR := Aside0.mk hR
          clear hT hR hO
          have heq := eql_nil
          have hcv := conv_one (wr.alloc (.cells #[.int .u8 63] 5)) wr.heap.size 63 (box_new1 wr _ 5)
          have h63 : ((⟨#[63]⟩ : ByteArray)[0]'(by decide)).toNat = 63 := rfl
          go_wp2_with (at_builtin; refine Kd.R_append Kd.string (w0 := w) w.heap.size rfl _ _ 29 9 (.string ⟨#[]⟩) 16 rfl Tryd.underlying29 ?aI rfl (by decide) (by omega) (.slice A 1 c) [z1] (⟨#[63]⟩ : ByteArray) [.string ⟨#[63]⟩] (fun _ => True) (fun _ => False) rfl ?aX rfl (fun _ hk => hk.elim) (fun _ _ => trivial) ?aO ?aB ?aS ?aL ?_; (case aI => kernel_rfl); (case aX => simp [Act.eval]); (case aO => exact Kd.R_alloc HR.out _); (case aB => exact HS.out.below.alloc (by have := HS.out.below.size; omega) _); (case aS => have := HS.out.below.size; simp; omega); (case aL => simp); intro v1 wx hRx hBx hgx hatx; have hTx := HT.out.grown hgx (Kd.R_ne HR.out HT.out (by decide)); obtain ⟨Ax, cx, rfl⟩ := Kd.R_slice hRx; have hl1 := hTx.last; have hf1 := hTx.frozen 256; obtain ⟨ce, we, hce, hbe⟩ := conv_empty (wx.setCell ⟨b, 256, none⟩ (.slice Ax 2 cx)); have hTe := (hTx.set256 (.slice Ax 2 cx)).below hbe; have hle := hTe.cell 63 (by omega); have hfe := hTe.frozen 63; have HRe := Aside0.mk (Kd.R_below (R_tab (j := 256) (u := .slice Ax 2 cx) hRx hTx) hbe); have HBe := Aside0.mk ((hBx.setCell (p := ⟨b, 256, none⟩) HS.out.hb (.slice Ax 2 cx)).trans (hbe.mono (by have := hBx.size; simpa using this))); have HTe := Aside0.mk hTe; clear hRx hBx hgx hatx hTx hbe hTe)
          exact ⟨.inr (.inr ⟨rfl, x, _, [z1, ⟨#[63]⟩], ⟨HX.out, ⟨_, _, rfl⟩, rfl, ⟨HBe.out.setCell (p := ⟨b, 63, none⟩) HS.out.hb _, ⟨_, HTe.out.set63 _, R_tab HRe.out HTe.out⟩, HS.out.hb⟩⟩⟩), by simp [intOf]⟩
        · go_wp2
          go_ret
          exact ⟨b, x, y, rfl, HS.out.1, HS.out.2.1, zs, HS.out.2.2⟩
end Go.Proofs.YtklddfkhbhkhdaaDoor.Q
namespace Go.Proofs.YtklddfkhbhkhdaaDoor.Q
open Go.RowKit Go.Proofs.YtklddfkhbhkhdaaDoorW.PrintWords Go.Proofs.YtklddfkhbhkhdaaDoorW.PrintLast Go.Proofs.YtklddfkhbhkhdaaDoorW.PrintMore
set_option linter.unusedVariables false
def Tb (B : Nat) (W : World) (r : Value) : Prop := ∃ b x y A c, r = .iface 149 (.pointer (some ⟨b, 0, none⟩)) ∧ b ≠ B ∧ IsE x ∧ IsE y ∧ TB W b x y (.slice A 2 c)
theorem Tb.set {B : Nat} (W : World) (j : Nat) (u r : Value) (h : Tb B W r) : Tb B (W.setCell ⟨B, j, none⟩ u) r := by
  obtain ⟨b, x, y, A, c, h1, h2, h3, h4, h5⟩ := h
  exact ⟨b, x, y, A, c, h1, h2, h3, h4, (Below.heap_setCell W ⟨B, j, none⟩ u b h2).trans h5⟩
theorem Tb.drew {B : Nat} (W : World) (r : Value) (h : Tb B W r) : Tb B W.drew r := h
theorem RB.below {W W' : World} {B : Nat} {d s : Int} {r on : Value} (h : RB W B d s r on) (hb : Below W.heap.size W W') : RB W' B d s r on := (hb.block B (blk_lt h)).trans h
set_option maxHeartbeats 1600000 in
set_option maxRecDepth 100000 in
theorem makes (B O cap base : Nat) (w : World) (r : Value) (h : RB w B 0 0 r (.slice (some ⟨O, 0, none⟩) 4 cap)) (ho : Old w O) (hne : O ≠ B) (hB : base ≤ B) : Makes B base w (Tb B) := by
  have h1 := h.set1 1
  have hlt := blk_lt h
  have ho1 : Old (w.setCell ⟨B, 1, none⟩ (.int .i32 1)) O := by
    have e : ∀ j, (w.setCell ⟨B, 1, none⟩ (.int .i32 1)).cell? ⟨O, j, none⟩ = w.cell? ⟨O, j, none⟩ := fun j => World.cell?_setCell_other _ _ _ _ (fun e => hne (by injection e with e; exact e.symm))
    exact ⟨(e 0).trans ho.o0, (e 1).trans ho.o1, (e 2).trans ho.o2, (e 3).trans ho.o3⟩
  have hb1 := (Below.refl base w).setCell (p := ⟨B, 1, none⟩) hB (.int .i32 1)
  have hsz : (w.setCell ⟨B, 1, none⟩ (.int .i32 1)).heap.size = w.heap.size := by simp [World.setCell]
  unfold Makes
  generalize w.setCell ⟨B, 1, none⟩ (.int .i32 1) = W at h1 ho1 hb1 hsz ⊢
  have HC := Aside0.mk (build_calls B O cap W r h1 ho1)
  have H1 := Aside0.mk h1
  have HB1 := Aside0.mk hb1
  clear h h1 ho ho1 hb1
  go_enter Tryd.func75, Tryd.ntmps75
  go_wp2_with (go_at_call 100; refine HC.out.mono ?_; rintro e w2 ⟨b, x, y, rfl, hx, hy, zs, hz, hs⟩; have hr := H1.out.below hs.below; have hc3 := hr.cells.c3; have hf3 := hr.cells.f3; have hr3 := hr.set3 (.iface 149 (.pointer (some ⟨b, 0, none⟩))); have hc4 := hr3.cells.c4; have hf4 := hr3.cells.f4; have HR4 := Aside0.mk (hr3.set4 (.slice none 0 0)); have HS := Aside0.mk hs; have HX := Aside0.mk hx; have HY := Aside0.mk hy; have HZ := Aside0.mk hz; clear hs hx hy hz hr hr3)
  go_end0
  obtain ⟨tr, hT, hR⟩ := HS.out.tab
  obtain ⟨A, c, rfl⟩ := Kd.R_slice hR
  rw [HZ.out] at hT
  have hbB : b ≠ B := by have := HS.out.hb; omega
  have hT2 : TB ((w2.setCell ⟨B, 3, none⟩ (.iface 149 (.pointer (some ⟨b, 0, none⟩)))).setCell ⟨B, 4, none⟩ (.slice none 0 0)) b x y (.slice A 2 c) := (Below.heap_setCell _ ⟨B, 4, none⟩ _ b hbB).trans ((Below.heap_setCell _ ⟨B, 3, none⟩ _ b hbB).trans hT)
  exact ⟨rfl, _, _, HR4.out, ⟨b, x, y, A, c, rfl, hbB, HX.out, HY.out, hT2⟩, (HB1.out.trans (HS.out.below.mono (by omega))).setCell (p := ⟨B, 3, none⟩) hB _ |>.setCell (p := ⟨B, 4, none⟩) hB _⟩
end Go.Proofs.YtklddfkhbhkhdaaDoor.Q
namespace Go.Proofs.YtklddfkhbhkhdaaDoor.Q
open Go.RowKit Go.Proofs.YtklddfkhbhkhdaaDoorW.PrintWords Go.Proofs.YtklddfkhbhkhdaaDoorW.PrintLast Go.Proofs.YtklddfkhbhkhdaaDoorW.PrintMore
set_option linter.unusedVariables false
def keepB (u : UInt8) : Bool := decide (u.toNat ≠ 63) && decide (u.toNat ≠ 42)
def keptB (s : ByteArray) (n : Nat) : List UInt8 := (s.data.toList.take n).filter keepB
def stripW (s : ByteArray) : ByteArray := ⟨(s.data.toList.filter keepB).toArray⟩
theorem kept_keep (s : ByteArray) (n : Nat) (h : n < s.size) (hk : keepB s[n] = true) : keptB s (n + 1) = keptB s n ++ [s[n]] := by
  have hl : n < s.data.toList.length := by simpa using h
  unfold keptB
  rw [List.take_succ_eq_append_getElem hl, List.filter_append]
  have e : s.data.toList[n] = s[n] := rfl
  rw [e, List.filter_cons, if_pos hk]
  rfl
theorem kept_drop (s : ByteArray) (n : Nat) (h : n < s.size) (hk : keepB s[n] = false) : keptB s (n + 1) = keptB s n := by
  have hl : n < s.data.toList.length := by simpa using h
  unfold keptB
  rw [List.take_succ_eq_append_getElem hl, List.filter_append]
  have e : s.data.toList[n] = s[n] := rfl
  rw [e, List.filter_cons, if_neg (by rw [hk]; decide), List.filter_nil, List.append_nil]
theorem kept_le (s : ByteArray) (n : Nat) : (keptB s n).length ≤ n := by
  unfold keptB
  exact Nat.le_trans (List.length_filter_le _ _) (by rw [List.length_take]; omega)
theorem kept_mono (s : ByteArray) (n : Nat) : (keptB s n).length ≤ (keptB s s.size).length := by
  unfold keptB
  rw [show s.data.toList.take s.size = s.data.toList from List.take_of_length_le (by simp)]
  exact (List.Sublist.filter keepB (List.take_sublist n _)).length_le
theorem kept_all (s : ByteArray) : keptB s s.size = s.data.toList.filter keepB := by
  unfold keptB
  rw [List.take_of_length_le (by simp)]
theorem strip_same (s : ByteArray) (h : (keptB s s.size).length = s.size) : stripW s = s := by
  rw [kept_all] at h
  have e : s.data.toList.filter keepB = s.data.toList := List.filter_eq_self.2 (List.length_filter_eq_length_iff.1 (by rw [h]; simp))
  unfold stripW
  rw [e]
theorem keep_cases (u : UInt8) : (u.toNat = 63 ∧ keepB u = false) ∨ (u.toNat = 42 ∧ keepB u = false) ∨ (u.toNat ≠ 63 ∧ u.toNat ≠ 42 ∧ keepB u = true) := by
  by_cases h1 : u.toNat = 63
  · exact .inl ⟨h1, by simp [keepB, h1]⟩
  · by_cases h2 : u.toNat = 42
    · exact .inr (.inl ⟨h2, by simp [keepB, h2]⟩)
    · exact .inr (.inr ⟨h1, h2, by simp [keepB, h1, h2]⟩)
theorem makeB (m : Nat) (hm : m ≤ 60) : ∀ W : World, (Instr.makeSlice 25 (.int .i64 (m : Int)) (.int .i64 (m : Int))).run Tryd.prog W = .ok (.slice (some ⟨W.heap.size, 0, none⟩) m m) (W.alloc (.cells (madeCells #[.int .u8 0] m) 5)) :=
  print_make_of (P := Tryd.prog) 25 5 (.int .u8 0) 1 Tryd.underlying25 (by kernel_rfl) rfl (by decide) m (by omega)
def bufL (s : ByteArray) (n : Nat) : List Int := (keptB s n).map (fun u => (u.toNat : Int)) ++ List.replicate ((keptB s s.size).length - (keptB s n).length) 0
theorem bufL_len (s : ByteArray) (n : Nat) : (bufL s n).length = (keptB s s.size).length := by
  have := kept_mono s n
  unfold bufL
  rw [List.length_append, List.length_map, List.length_replicate]
  omega
theorem bufL_drop (s : ByteArray) (n : Nat) (h : keptB s (n + 1) = keptB s n) : bufL s (n + 1) = bufL s n := by unfold bufL; rw [h]
theorem bufL_keep (s : ByteArray) (n : Nat) (u : UInt8) (h : keptB s (n + 1) = keptB s n ++ [u]) : (bufL s n).set (keptB s n).length (u.toNat : Int) = bufL s (n + 1) := by
  have hm := kept_mono s (n + 1)
  have hl := congrArg List.length h
  rw [List.length_append, List.length_singleton] at hl
  unfold bufL
  obtain ⟨k, hk⟩ : ∃ k, (keptB s s.size).length - (keptB s n).length = k + 1 := ⟨(keptB s s.size).length - (keptB s n).length - 1, by omega⟩
  rw [hk, hl, show (keptB s s.size).length - ((keptB s n).length + 1) = k by omega, h, List.map_append, List.replicate_succ]
  rw [List.set_append_right _ _ (by rw [List.length_map]; exact Nat.le_refl _), List.length_map, Nat.sub_self, List.set_cons_zero, List.append_assoc]
  rfl
theorem copy_none (W : World) (p : Option Addr) (k k2 c : Nat) (a : Addr) : (Builtin.copy_ #[25, 25] 3 #[.slice p k k2, .slice (some a) 0 c]).run Tryd.prog W = .ok (.int .i64 0) W := by
  have h5 : ∃ i, Tryd.prog.info? 5 = some i := by
    have : (Tryd.prog.info? 5).isSome = true := by kernel_rfl
    exact Option.isSome_iff_exists.1 this
  obtain ⟨i, hi⟩ := h5
  cases p with
  | none => simp [Builtin.copy_, run_underlying Tryd.underlying25, Builtin.lenOf, Builtin.firstCells, sizeOf, typeInfo, hi, goInt, go_sem]
  | some q => simp [Builtin.copy_, run_underlying Tryd.underlying25, Builtin.lenOf, Builtin.firstCells, sizeOf, typeInfo, hi, goInt, go_sem]
structure Buf (w W : World) (s : ByteArray) (n : Nat) : Prop where
  below : Below w.heap.size w W
  row : W.heap[w.heap.size]? = some (.cells (nums .u8 (bufL s n)).toArray 5 (0, 0))
theorem buf_start (w : World) (s : ByteArray) : Buf w (w.alloc (.cells (madeCells #[.int .u8 0] (keptB s s.size).length) 5)) s 0 := by
  refine ⟨(Below.refl _ _).alloc (Nat.le_refl _) _, ?_⟩
  have e : madeCells #[Value.int .u8 0] (keptB s s.size).length = (nums .u8 (bufL s 0)).toArray := by
    have hb : bufL s 0 = List.replicate (keptB s s.size).length 0 := by simp [bufL, keptB]
    rw [hb]
    apply Array.ext
    · simp [size_madeCells, nums]
    · intro i h1 h2
      simp [madeCells, nums, Nat.mod_one]
  rw [e]
  exact Go.heap_alloc_new w _
theorem Buf.drew {w W : World} {s : ByteArray} {n : Nat} (h : Buf w W s n) : Buf w W.drew s n := ⟨h.below.drew, h.row⟩
theorem Buf.skip {w W : World} {s : ByteArray} {n : Nat} (h : Buf w W s n) (hk : keptB s (n + 1) = keptB s n) : Buf w W s (n + 1) := ⟨h.below, by rw [bufL_drop s n hk]; exact h.row⟩
theorem Buf.cell {w W : World} {s : ByteArray} {n : Nat} (h : Buf w W s n) (j : Nat) (hj : j < (bufL s n).length) : W.cell? ⟨w.heap.size, j, none⟩ = some (.int .u8 (bufL s n)[j]) ∧ W.frozen? ⟨w.heap.size, j, none⟩ = false := by
  refine ⟨?_, by simp [World.frozen?, h.row]⟩
  unfold World.cell?
  rw [h.row]
  simp [nums, hj]
theorem Buf.put {w W : World} {s : ByteArray} {n : Nat} (h : Buf w W s n) (u : UInt8) (hk : keptB s (n + 1) = keptB s n ++ [u]) : Buf w (W.setCell ⟨w.heap.size, (keptB s n).length, none⟩ (.int .u8 (u.toNat : Int))) s (n + 1) :=
  ⟨h.below.setCell (p := ⟨w.heap.size, (keptB s n).length, none⟩) (Nat.le_refl _) _, by rw [← bufL_keep s n u hk]; exact blk_put h.row _ _ (by simp [nums, List.map_set])⟩
theorem Buf.text {w W : World} {s : ByteArray} (h : Buf w W s s.size) : (convert 25 9 (.slice (some ⟨w.heap.size, 0, none⟩) (keptB s s.size).length (keptB s s.size).length)).run Tryd.prog W = .ok (.string (stripW s)) W := by
  have hb : bufL s s.size = (keptB s s.size).map (fun u => (u.toNat : Int)) := by unfold bufL; rw [Nat.sub_self, List.replicate_zero, List.append_nil]
  have hr := run_convert_bytes_back (P := Tryd.prog) W 25 9 5 ⟨w.heap.size, 0, none⟩ (keptB s s.size).length (keptB s s.size) Tryd.underlying25 Tryd.underlying5 Tryd.underlying9 (fun j hj => by
    rw [Addr.add_mid, Nat.zero_add, (h.cell j (by rw [bufL_len]; exact hj)).1]
    simp [hb])
  rw [hr]
  unfold stripW
  rw [kept_all]
set_option maxHeartbeats 1600000 in
set_option maxRecDepth 100000 in
theorem strip_calls (b : Nat) (s : ByteArray) (x y : Value) (A : Option Addr) (c : Nat) (w : World) (hs : s.size ≤ 14) (hx : IsE x) (hy : IsE y) (hT : TB w b x y (.slice A 2 c)) :
    Calls Tryd.prog 184 #[.pointer (some ⟨b, 0, none⟩), .string s] w fun e w' => e = .returned (.string (stripW s)) ∧ Below w.heap.size w w' := by
  obtain ⟨ax, cx, rfl⟩ := hx
  obtain ⟨ay, cy, rfl⟩ := hy
  have hl := hT.last
  have h16 : decide ((16 : Int) ≤ (s.size : Int)) = false := decide_eq_false (by omega)
  have h16n : ¬ (16 ≤ s.size) := by omega
  have HT := Aside0.mk hT
  clear hT
  go_enter Tryd.func184, Tryd.ntmps184
  go_wp2
  go_loopw [5, 6, 10] (fun z a i wr => ∃ n : Nat, n ≤ s.size ∧ i = .int .i64 n ∧ w = wr ∧ z = .int .i64 ((s.size : Int) - n + (keptB s n).length) ∧ a = .bool (decide ((keptB s n).length < n))) (fun _ _ i _ => s.size - (intOf i).toNat)
  case atStart => exact ⟨0, Nat.zero_le _, rfl, rfl, by simp [keptB], by simp⟩
  case round =>
    obtain ⟨n, hn, rfl, rfl, rfl, rfl⟩ := hrel
    by_cases hlt : n < s.size
    · have hkl := kept_le s n
      have hneq := neq_nil
      have hneq2 := neq_some
      rcases keep_cases (s[n]'hlt) with ⟨hu, hk⟩ | ⟨hu, hk⟩ | ⟨hu1, hu2, hk⟩
      · have hc := HT.out.cell 63 (by omega)
        rw [if_pos rfl] at hc
        have HK := Aside0.mk (kept_drop s n hlt hk)
        clear hk
        go_wp2
        exact ⟨⟨n + 1, by omega, by go_num, trivial, by rw [HK.out]; congr 1; omega, by rw [HK.out]; congr 1; exact (decide_eq_true (by omega)).symm⟩, by simp [intOf]; omega⟩
      · have hc := HT.out.cell 42 (by omega)
        rw [if_neg (by omega), if_pos rfl] at hc
        have HK := Aside0.mk (kept_drop s n hlt hk)
        clear hk
        go_wp2
        exact ⟨⟨n + 1, by omega, by go_num, trivial, by rw [HK.out]; congr 1; omega, by rw [HK.out]; congr 1; exact (decide_eq_true (by omega)).symm⟩, by simp [intOf]; omega⟩
      · have hc := HT.out.cell (s[n]'hlt).toNat (s[n]'hlt).toNat_lt
        rw [if_neg hu1, if_neg hu2] at hc
        have hk2 := congrArg List.length (kept_keep s n hlt hk)
        rw [List.length_append, List.length_singleton] at hk2
        have HK := Aside0.mk hk2
        have hbt : (s[n]'hlt).toNat < 256 := (s[n]'hlt).toNat_lt
        clear hk hk2 hu1 hu2
        go_wp2
        exact ⟨⟨n + 1, by omega, by go_num, trivial, by rw [HK.out]; congr 1; omega, by rw [HK.out]; congr 1; exact decide_eq_decide.2 (by omega)⟩, by simp [intOf]; omega⟩
    · obtain rfl : n = s.size := by omega
      have hkl := kept_le s s.size
      have ez : (s.size : Int) - (s.size : Int) + ((keptB s s.size).length : Int) = ((keptB s s.size).length : Int) := by omega
      rw [ez]
      clear ez
      by_cases hch : (keptB s s.size).length < s.size
      · have hcb := decide_eq_true hch
        have hmk := makeB (keptB s s.size).length (by omega)
        have HB0 := Aside0.mk (buf_start w s)
        go_wp2
        generalize w.alloc (.cells (madeCells #[.int .u8 0] (keptB s s.size).length) 5) = W0 at HB0 ⊢
        clear hcb hmk
        go_loopw [13, 14] (fun j i W => ∃ n : Nat, n ≤ s.size ∧ i = .int .i64 n ∧ j = .int .i64 ((keptB s n).length : Nat) ∧ Aside0 (Buf w W s n)) (fun _ i _ => s.size - (intOf i).toNat)
        case atStart => exact ⟨0, Nat.zero_le _, rfl, by simp [keptB], HB0⟩
        case round =>
          clear HB0
          obtain ⟨n, hn, rfl, rfl, HB⟩ := hrel
          have hT2 := HT.out.below HB.out.below
          have HT2 := Aside0.mk hT2
          clear hT2
          by_cases hlt : n < s.size
          · have hkl := kept_mono s n
            rcases keep_cases (s[n]'hlt) with ⟨hu, hk⟩ | ⟨hu, hk⟩ | ⟨hu1, hu2, hk⟩
            · have hc := HT2.out.cell 63 (by omega)
              rw [if_pos rfl] at hc
              have HK := Aside0.mk (kept_drop s n hlt hk)
              have hneq := neq_nil
              have hneq2 := neq_some
              have hcp := copy_none
              clear hk
              go_wp2
              go_region
              go_wp2
              exact ⟨⟨n + 1, by omega, by go_num, by rw [HK.out], ⟨HB.out.drew.skip HK.out⟩⟩, by simp [intOf]; omega⟩
            · have hc := HT2.out.cell 42 (by omega)
              rw [if_neg (by omega), if_pos rfl] at hc
              have HK := Aside0.mk (kept_drop s n hlt hk)
              have hneq := neq_nil
              have hneq2 := neq_some
              have hcp := copy_none
              clear hk
              go_wp2
              go_region
              go_wp2
              exact ⟨⟨n + 1, by omega, by go_num, by rw [HK.out], ⟨HB.out.drew.skip HK.out⟩⟩, by simp [intOf]; omega⟩
            · have hc := HT2.out.cell (s[n]'hlt).toNat (s[n]'hlt).toNat_lt
              rw [if_neg hu1, if_neg hu2] at hc
              have hkk := kept_keep s n hlt hk
              have hk2 := congrArg List.length hkk
              rw [List.length_append, List.length_singleton] at hk2
              have hkm := kept_mono s (n + 1)
              have hj : (keptB s n).length < (keptB s s.size).length := by omega
              obtain ⟨hcc, hff⟩ := HB.out.cell (keptB s n).length (by rw [bufL_len]; exact hj)
              have HP := Aside0.mk (HB.out.put (s[n]'hlt) hkk)
              have HK := Aside0.mk hk2
              have hbt : (s[n]'hlt).toNat < 256 := (s[n]'hlt).toNat_lt
              have hneq := neq_nil
              have hneq2 := neq_some
              clear hk hk2 hu1 hu2 hkk hkm
              go_wp2
              exact ⟨⟨n + 1, by omega, by go_num, by rw [HK.out]; rfl, HP⟩, by simp [intOf]; omega⟩
          · obtain rfl : n = s.size := by omega
            have hcv := HB.out.text
            go_wp2
            go_ret
            exact ⟨rfl, HB.out.below⟩
      · have hcb := decide_eq_false hch
        have HE := Aside0.mk (strip_same s (by omega))
        clear hch
        go_wp2
        go_ret
        exact ⟨by rw [HE.out]; rfl, Below.refl _ _⟩
end Go.Proofs.YtklddfkhbhkhdaaDoor.Q
namespace Go.Proofs.YtklddfkhbhkhdaaDoor.Q
open Go.RowKit Go.Proofs.YtklddfkhbhkhdaaDoorW.PrintWords Go.Proofs.YtklddfkhbhkhdaaDoorW.PrintLast Go.Proofs.YtklddfkhbhkhdaaDoorW.PrintMore
set_option linter.unusedVariables false
def pairsL : List ByteArray := [⟨#[63]⟩, ⟨#[]⟩, ⟨#[42]⟩, ⟨#[]⟩]
theorem old_C {W : World} {O : Nat} (h : Old W O) : Kd.C Kd.string W (some ⟨O, 0, none⟩) 4 pairsL := by
  refine ⟨rfl, by omega, fun _ => ⟨_, rfl, fun j p hj => ⟨[.string p], rfl, rfl, fun i u hu => ?_⟩⟩⟩
  have hi : i = 0 := by
    have := (List.getElem?_eq_some_iff.1 hu).1
    simpa using this
  subst hi
  obtain rfl : Value.string p = u := by simpa using hu
  rw [Addr.add_mid, Nat.zero_add]
  show W.cell? ⟨O, j * 1 + 0, none⟩ = _
  rw [Nat.mul_one, Nat.add_zero]
  have hj4 := (List.getElem?_eq_some_iff.1 hj).1
  have hj5 : j < 4 := hj4
  rcases (by omega : j = 0 ∨ j = 1 ∨ j = 2 ∨ j = 3) with rfl | rfl | rfl | rfl
  · cases hj; exact h.o0
  · cases hj; exact h.o1
  · cases hj; exact h.o2
  · cases hj; exact h.o3
theorem old_R {W : World} {base : Nat} {v : Value} (h : Kd.R Kd.string 9 W base (fun _ => True) v pairsL) : ∃ O cap, v = .slice (some ⟨O, 0, none⟩) 4 cap ∧ base ≤ O ∧ O < W.heap.size ∧ Old W O := by
  obtain ⟨g, cap, rfl, h1, h2, _⟩ := Kd.R_form h (by decide)
  have hc := (Kd.R_reads' h).2.2
  have at_ : ∀ j : Nat, j < 4 → W.cell? ⟨g, j, none⟩ = some (.string (rdOf ByteArray.empty pairsL (j : Int))) := fun j hj => by
    obtain ⟨ad, e, hx⟩ := Kd.at_string hc (j : Int) (by omega) (by show (j : Int) < ((pairsL.length : Nat) : Int); have : pairsL.length = 4 := rfl; omega)
    cases e
    rw [Int.toNat_natCast, Addr.add_mid, Nat.zero_add] at hx
    exact hx
  exact ⟨g, cap, rfl, h1, h2, at_ 0 (by omega), at_ 1 (by omega), at_ 2 (by omega), at_ 3 (by omega)⟩
set_option maxHeartbeats 1600000 in
set_option maxRecDepth 100000 in
theorem newrep_calls (O0 : Nat) (w : World) (ho : Old w O0) :
    Calls Tryd.prog 61 #[.slice (some ⟨O0, 0, none⟩) 4 4] w fun e w' => ∃ B O cap, e = .returned (.pointer (some ⟨B, 0, none⟩)) ∧ RB w' B 0 0 .nilIface (.slice (some ⟨O, 0, none⟩) 4 cap) ∧ Old w' O ∧ O ≠ B ∧ w.heap.size ≤ B ∧ Below w.heap.size w w' := by
  have HC := Aside0.mk (old_C ho)
  clear ho
  go_enter Tryd.func61, Tryd.ntmps61
  go_wp2_with (at_builtin; refine Kd.R_append_row Value.string ⟨#[]⟩ (w0 := w) (h1 := fun _ => rfl) w.heap.size rfl _ _ 29 9 (.string ⟨#[]⟩) 16 rfl Tryd.underlying29 ?aI rfl (by decide) (.slice none 0 0) [] pairsL (some ⟨O0, 0, none⟩) 4 4 (fun _ => True) rfl ?aX (fun _ _ => trivial) (Kd.R_nil _ _ _ _ _) HC.out (Below.refl _ _) (Nat.le_refl _) (by decide) ?_; (case aI => kernel_rfl); (case aX => simp [Act.eval]); intro v1 w1 hR hB hg hat; obtain ⟨O, cap, rfl, hO1, hO2, hO3⟩ := old_R hR; have HO := Aside0.mk hO3; have HB := Aside0.mk hB; have HL := Aside0.mk hO2; clear hR hB hg hat hO1 hO2 hO3)
  go_ret
  exact ⟨w1.heap.size, O, cap, rfl, Go.heap_alloc_new w1 _, HO.out.below ((Below.refl _ _).alloc (Nat.le_refl _) _), by have := HL.out; omega, HB.out.size, HB.out.alloc HB.out.size _⟩
set_option maxHeartbeats 1600000 in
set_option maxRecDepth 100000 in
theorem repl_calls (B O cap base : Nat) (s : ByteArray) (w : World) (h : RB w B 0 0 .nilIface (.slice (some ⟨O, 0, none⟩) 4 cap)) (ho : Old w O) (hne : O ≠ B) (hB : base ≤ B) (hs : s.size ≤ 14) :
    Calls Tryd.prog 62 #[.pointer (some ⟨B, 0, none⟩), .string s] w fun e w' => e = .returned (.string (stripW s)) ∧ Below base w w' := by
  have HM := Aside0.mk (once_do B base w .nilIface _ (Tb B) hB h (makes B O cap base w .nilIface h ho hne hB) (fun W j u r' => Tb.set W j u r') (fun W r' => Tb.drew W r'))
  have hlt := blk_lt h
  have HLT : Aside0 (base ≤ w.heap.size) := ⟨by omega⟩
  clear h ho
  have hmf : ∀ (fn : Fn) (first cap : Array Value) (w : World), (Instr.makeFunc fn first cap).run Tryd.prog w = .ok (.func fn first cap) w := fun _ _ _ _ => rfl
  have hme : ∀ (b : Nat) (w : World), (method 318 149 (.pointer (some ⟨b, 0, none⟩)) "Replace").run Tryd.prog w = .ok (184, .pointer (some ⟨b, 0, none⟩)) w := fun _ _ => by kernel_rfl
  go_enter Tryd.func62, Tryd.ntmps62
  go_wp2_with (first
    | (go_at_call 74; refine HM.out.mono ?_; rintro e w2 ⟨rfl, r2, on2, hr2, ⟨b, x, y, A, c, rfl, hbB, hx, hy, hT⟩, hb2⟩; have hc3 := hr2.cells.c3; have HT := Aside0.mk hT; have HX := Aside0.mk hx; have HY := Aside0.mk hy; have HB2 := Aside0.mk hb2; clear hr2 hx hy hT hb2 hbB)
    | (go_at_call 184; refine (strip_calls b s x y A c _ hs HX.out HY.out HT.out).mono ?_; rintro e w3 ⟨rfl, hb3⟩; have HB3 := Aside0.mk hb3; clear hb3))
  go_ret
  exact ⟨rfl, HB2.out.trans (HB3.out.mono (Nat.le_trans HLT.out HB2.out.size))⟩
end Go.Proofs.YtklddfkhbhkhdaaDoor.Q
namespace Go.Proofs
open Go.Shelf
def Tryd.lTrim_ren : Go.Shelf.Ren := ⟨fun | 160 => 68 | 232 => 83 | 231 => 82 | 227 => 84 | 234 => 86 | 233 => 85 | 236 => 88 | 235 => 87 | 228 => 108 | 271 => 110 | 151 => 109 | 197 => 90 | 120 => 128 | 152 => 127 | 260 => 111 | 137 => 137 | 119 => 138 | 224 => 94 | 225 => 93 | 217 => 92 | 266 => 112 | n => n, fun | 9 => 9 | 4 => 4 | 3 => 3 | 5 => 5 | 117 => 108 | 116 => 107 | 0 => 0 | 124 => 111 | 21 => 21 | 105 => 112 | 46 => 79 | 119 => 143 | 139 => 161 | 138 => 160 | n => n, fun | 3 => 4 | 4 => 5 | n => n⟩
theorem Tryd.lTrim : Go.Proofs.Lays.n160 Tryd.prog Tryd.lTrim_ren := {
  mixed := by kernel_rfl
  f119 := Tryd.func138.trans (congrArg some (by kernel_rfl))
  f120 := Tryd.func128.trans (congrArg some (by kernel_rfl))
  f137 := Tryd.func137.trans (congrArg some (by kernel_rfl))
  f151 := Tryd.func109.trans (congrArg some (by kernel_rfl))
  f152 := Tryd.func127.trans (congrArg some (by kernel_rfl))
  f160 := Tryd.func68.trans (congrArg some (by kernel_rfl))
  f197 := Tryd.func90.trans (congrArg some (by kernel_rfl))
  f217 := Tryd.func92.trans (congrArg some (by kernel_rfl))
  f224 := Tryd.func94.trans (congrArg some (by kernel_rfl))
  f225 := Tryd.func93.trans (congrArg some (by kernel_rfl))
  f227 := Tryd.func84.trans (congrArg some (by kernel_rfl))
  f228 := Tryd.func108.trans (congrArg some (by kernel_rfl))
  f231 := Tryd.func82.trans (congrArg some (by kernel_rfl))
  f232 := Tryd.func83.trans (congrArg some (by kernel_rfl))
  f233 := Tryd.func85.trans (congrArg some (by kernel_rfl))
  f234 := Tryd.func86.trans (congrArg some (by kernel_rfl))
  f235 := Tryd.func87.trans (congrArg some (by kernel_rfl))
  f236 := Tryd.func88.trans (congrArg some (by kernel_rfl))
  f260 := Tryd.func111.trans (congrArg some (by kernel_rfl))
  f266 := Tryd.func112.trans (congrArg some (by kernel_rfl))
  f271 := Tryd.func110.trans (congrArg some (by kernel_rfl))
  t0 := Tryd.underlying0
  a0 := Tryd.isAgg0
  z0 := Tryd.sizeOf0
  v0 := Tryd.zeroValue0
  t3 := Tryd.underlying3
  a3 := Tryd.isAgg3
  z3 := Tryd.sizeOf3
  v3 := Tryd.zeroValue3
  t4 := Tryd.underlying4
  a4 := Tryd.isAgg4
  z4 := Tryd.sizeOf4
  v4 := Tryd.zeroValue4
  t5 := Tryd.underlying5
  a5 := Tryd.isAgg5
  z5 := Tryd.sizeOf5
  v5 := Tryd.zeroValue5
  t9 := Tryd.underlying9
  a9 := Tryd.isAgg9
  z9 := Tryd.sizeOf9
  v9 := Tryd.zeroValue9
  t21 := Tryd.underlying21
  a21 := Tryd.isAgg21
  z21 := Tryd.sizeOf21
  v21 := Tryd.zeroValue21
  t46 := Tryd.underlying79
  a46 := Tryd.isAgg79
  z46 := Tryd.sizeOf79
  v46 := Tryd.zeroValue79
  t105 := Tryd.underlying112
  a105 := Tryd.isAgg112
  z105 := Tryd.sizeOf112
  v105 := Tryd.zeroValue112
  t116 := Tryd.underlying107
  a116 := Tryd.isAgg107
  z116 := Tryd.sizeOf107
  t117 := Tryd.underlying108
  a117 := Tryd.isAgg108
  z117 := Tryd.sizeOf108
  v117 := Tryd.zeroValue108
  t119 := Tryd.underlying143
  a119 := Tryd.isAgg143
  z119 := Tryd.sizeOf143
  t124 := Tryd.underlying111
  a124 := Tryd.isAgg111
  z124 := Tryd.sizeOf111
  v124 := Tryd.zeroValue111
  t138 := Tryd.underlying160
  a138 := Tryd.isAgg160
  z138 := Tryd.sizeOf160
  v138 := Tryd.zeroValue160
  t139 := Tryd.underlying161
  a139 := Tryd.isAgg161
  z139 := Tryd.sizeOf161
  v139 := Tryd.zeroValue161
  g3 := by kernel_rfl
  g4 := by kernel_rfl }
end Go.Proofs
namespace Go.Proofs.YtklddfkhbhkhdaaDoor.Q
open Go.RowKit Go.Shelf Go.Proofs.YtklddfkhbhkhdaaDoorW.PrintWords Go.Proofs.YtklddfkhbhkhdaaDoorW.PrintLast Go.Proofs.YtklddfkhbhkhdaaDoorW.PrintMore
set_option linter.unusedVariables false
def abcW : ByteArray := ⟨#[97, 98, 99, 100, 101, 102, 103, 104, 105, 106, 107, 108, 109, 110, 111, 112, 113, 114, 115, 116, 117, 118, 119, 120, 121, 122]⟩
def lettersB (w : ByteArray) : Bool := w.data.toList.all fun x => decide (97 ≤ x.toNat ∧ x.toNat ≤ 122)
theorem abc_mem (x : UInt8) : abcW.data.toList.contains x = decide (97 ≤ x.toNat ∧ x.toNat ≤ 122) := by
  have h : ∀ n : Nat, n < 256 → abcW.data.toList.contains (UInt8.ofNat n) = decide (97 ≤ n ∧ n ≤ 122) := by decide +kernel
  have := h x.toNat x.toNat_lt
  rwa [UInt8.ofNat_toNat] at this
theorem dropWhile_nil {α : Type} (p : α → Bool) : ∀ l : List α, l.dropWhile p = [] ↔ ∀ x ∈ l, p x = true
  | [] => by simp
  | a :: l => by
    rw [List.dropWhile_cons]
    split
    · rename_i h
      rw [dropWhile_nil p l]
      simp [h]
    · rename_i h
      simp [h]
theorem trimS_nil (l cs : List UInt8) : Lib.trimS l cs = [] ↔ ∀ x ∈ l, cs.contains x = true := by
  unfold Lib.trimS Lib.trimLeftS Lib.trimRightS
  rw [dropWhile_nil]
  constructor
  · intro h
    have h2 : l.reverse.dropWhile (cs.contains ·) = [] := by
      cases hq : l.reverse.dropWhile (cs.contains ·) with
      | nil => rfl
      | cons a r =>
        exfalso
        rw [hq] at h
        have h3 : cs.contains a = true := h a (by simp)
        have h4 := List.head?_dropWhile_not (p := (cs.contains ·)) l.reverse
        rw [hq] at h4
        simp only [List.head?_cons] at h4
        rw [h3] at h4
        cases h4
    intro x hx
    exact (dropWhile_nil _ _).1 h2 x (List.mem_reverse.2 hx)
  · intro h x hx
    have hx2 := (List.dropWhile_sublist _).subset (List.mem_reverse.1 hx)
    exact h x (List.mem_reverse.1 hx2)
theorem trim_letters (w : ByteArray) : decide (Lib.trimS w.data.toList abcW.data.toList = []) = lettersB w := by
  rw [Bool.eq_iff_iff, decide_eq_true_eq, trimS_nil]
  unfold lettersB
  rw [List.all_eq_true]
  exact forall_congr' fun x => imp_congr Iff.rfl (by rw [abc_mem])
theorem trim_empty (w : ByteArray) : (Lib.trimS w.data.toList abcW.data.toList).isEmpty = lettersB w := by
  rw [← trim_letters]
  cases Lib.trimS w.data.toList abcW.data.toList <;> simp
def impl_areLetters.f (a0 : ByteArray) : Option Bool := if a0.size ≤ 9223372036854775807 then some (lettersB a0) else none
set_option maxHeartbeats 1000000 in
theorem impl_areLetters.calls (a0 : ByteArray) (r : Bool) (w : World) (h : impl_areLetters.f a0 = some r) :
    Calls Tryd.prog 54 #[.string a0] w fun e w' => e = .returned (.bool r) ∧ Below w.heap.size w w' := by
  unfold impl_areLetters.f at h
  split at h
  case isFalse => cases h
  rename_i hs
  obtain rfl := Option.some.inj h
  clear h
  have hT := Any.strings_Trim_laid Tryd.lTrim (by kernel_rfl) a0 abcW w hs (by decide) (ascii_of_all (by decide))
  have HT := Aside0.mk hT
  have HL := Aside0.mk (trim_empty a0)
  obtain ⟨t, ht⟩ : ∃ t, t = Lib.trimS a0.data.toList abcW.data.toList := ⟨_, rfl⟩
  have HE := Aside0.mk ht
  clear hT ht
  unfold abcW at HT
  go_enter Tryd.func54, Tryd.ntmps54
  go_wp2_with (go_at_call 68; refine HT.out.mono ?_; rintro e w' ⟨rfl, hb⟩; have HB := Aside0.mk hb; clear hb)
  go_ret
  exact ⟨congrArg (fun b => Ending.returned (.bool b)) HL.out, HB.out⟩
end Go.Proofs.YtklddfkhbhkhdaaDoor.Q
namespace Go.Proofs.YtklddfkhbhkhdaaDoor.Q
open Go.RowKit Go.Proofs.YtklddfkhbhkhdaaDoorW.PrintWords Go.Proofs.YtklddfkhbhkhdaaDoorW.PrintLast Go.Proofs.YtklddfkhbhkhdaaDoorW.PrintMore
set_option linter.unusedVariables false
def litO (w : World) : World := w.alloc (.cells #[.string ⟨#[63]⟩, .string ⟨#[]⟩, .string ⟨#[42]⟩, .string ⟨#[]⟩] 9)
theorem old_new (w : World) : Old (litO w) w.heap.size := by
  have h := Go.heap_alloc_new w (.cells #[.string ⟨#[63]⟩, .string ⟨#[]⟩, .string ⟨#[42]⟩, .string ⟨#[]⟩] 9)
  unfold litO
  refine ⟨?_, ?_, ?_, ?_⟩ <;> (unfold World.cell?; rw [h]; rfl)
theorem below_lit (w : World) : Below w.heap.size w (litO w) := (Below.refl _ _).alloc (Nat.le_refl _) _
def impl_isPattern.f (a0 : ByteArray) : Option Bool := some (decide (a0.size ≤ 14) && lettersB (stripW a0))
theorem strip_size (s : ByteArray) : (stripW s).size ≤ s.size := by
  show (s.data.toList.filter keepB).toArray.size ≤ _
  have := List.length_filter_le keepB s.data.toList
  simpa using this
set_option maxHeartbeats 1600000 in
set_option maxRecDepth 100000 in
theorem impl_isPattern.calls (a0 : ByteArray) (r : Bool) (w : World) (h : impl_isPattern.f a0 = some r) :
    Calls Tryd.prog 43 #[.string a0] w fun e w' => e = .returned (.bool r) ∧ Below w.heap.size w w' := by
  unfold impl_isPattern.f at h
  obtain rfl := Option.some.inj h
  clear h
  by_cases hs : a0.size ≤ 14
  · have hb : decide ((a0.size : Int) ≤ 14) = true := decide_eq_true (by omega)
    have hb2 := decide_eq_true hs
    have HS := Aside0.mk (strip_size a0)
    have HO := Aside0.mk (old_new w)
    have HL := Aside0.mk (below_lit w)
    have HF : Aside0 (impl_areLetters.f (stripW a0) = some (lettersB (stripW a0))) := ⟨by unfold impl_areLetters.f; rw [if_pos (by have := HS.out; omega)]⟩
    go_enter Tryd.func43, Tryd.ntmps43
    go_wp2_with (first
      | (go_at_call 61; refine (newrep_calls w.heap.size (litO w) HO.out).mono ?_; rintro e w1 ⟨B, O, cap, rfl, hr, ho, hne, hB, hb1⟩; have HR1 := Aside0.mk hr; have HO1 := Aside0.mk ho; have HN1 := Aside0.mk hne; have HBB := Aside0.mk hB; have HB1 := Aside0.mk hb1; clear hr ho hne hB hb1)
      | (go_at_call 62; refine (repl_calls B O cap w.heap.size a0 w1 HR1.out HO1.out HN1.out (Nat.le_trans HL.out.size HBB.out) hs).mono ?_; rintro e w2 ⟨rfl, hb2⟩; have HB2 := Aside0.mk hb2; clear hb2)
      | (go_at_call 54; refine (impl_areLetters.calls (stripW a0) _ w2 HF.out).mono ?_; rintro e w3 ⟨rfl, hb3⟩; have HB3 := Aside0.mk hb3; clear hb3))
    go_ret
    have hq := (HL.out.trans (HB1.out.mono HL.out.size)).trans HB2.out
    exact ⟨by rw [hb2]; rfl, hq.trans (HB3.out.mono hq.size)⟩
  · have hb : decide ((a0.size : Int) ≤ 14) = false := decide_eq_false (by omega)
    have hb2 := decide_eq_false hs
    go_enter Tryd.func43, Tryd.ntmps43
    go_wp2
    go_ret
    exact ⟨by rw [hb2]; rfl, Below.refl _ _⟩
end Go.Proofs.YtklddfkhbhkhdaaDoor.Q
namespace Go.Proofs.YtklddfkhbhkhdaaDoor.Q
open Go.RowKit Go.Proofs.YtklddfkhbhkhdaaDoorW.PrintWords Go.Proofs.YtklddfkhbhkhdaaDoorW.PrintLast Go.Proofs.YtklddfkhbhkhdaaDoorW.PrintMore
attribute [local go_sem] run_field_156 run_field_157 isSome_setCell max2_int min2_int max_two min_two max_three min_three max_four min_four   -- for this text's walks alone
set_option linter.unusedVariables false
set_option linter.unusedSimpArgs false
def impl_IsPattern.f (a0 : ByteArray) : Option (Bool) := (impl_isPattern.f a0).bind fun t102 => (some t102)
set_option maxHeartbeats 8000000 in
set_option maxRecDepth 100000 in
theorem impl_IsPattern.calls (a0 : ByteArray) (r : Bool) (w : World) (h : impl_IsPattern.f a0 = some r) :
    Calls Tryd.prog 19 #[.string a0] w fun e w' => e = .returned (.bool r) ∧ Below w.heap.size w w' := by
  have HB := Aside0.mk (Below.refl w.heap.size w)
  have H : ((impl_isPattern.f a0).bind fun t102 => (some t102)) = some r := h
  clear h
  replace H := Option.bind_eq_some_iff.mp H
  obtain ⟨t102, A20, H⟩ := H
  replace H : (some t102) = some r := H
  have A2 := Aside0.mk A20
  clear A20
  obtain rfl := Option.some.inj H
  go_enter Tryd.func19, Tryd.ntmps19
  go_wp2_with (first | ((with_reducible refine gate_callee (f := 43) rfl ?_); refine goesL_ (some 4) rfl rfl Tryd.func43 (by kernel_rfl) rfl #[.string a0] rfl (by (try simp only [List.map_toArray, List.map_cons, List.map_nil]); first | done | rfl | (simp only [List.length_drop, List.length_take]; rfl)) ?_; (with_reducible refine (impl_isPattern.calls a0 t102 _ A2.out).mono ?_); rintro e w3 ⟨rfl, hb⟩; refine ⟨_, rfl, ?_⟩; have n0_ := Aside0.mk (below_step (by repeat (first | (with_reducible first | exact HB.out | apply below_alloc | apply pw_below_drewN | apply below_drew1) | exact HB.out)) hb); clear HB; have HB := n0_; clear n0_; (try clear hb); (try clear hb2); (try clear hk); (try clear hi)))
  go_ret
  exact ⟨by first | rfl | (simp [errW_none, errW_some] <;> rfl) | (simp [*, errW_none, errW_some] <;> rfl), by repeat (first | (with_reducible first | exact HB.out | apply below_alloc | apply pw_below_drewN | apply below_drew1) | exact HB.out)⟩
def laws_FnExactIsPattern.f (k : Nat) (a0 : ByteArray) : Option (Bool) := if (a0.size : Int) > 1048576 then (some true) else ((spec_IsPattern.f k a0).bind fun t103 => ((impl_IsPattern.f a0).bind fun t104 => (if (t104 != t103) = true then (some false) else (some true))))
set_option maxHeartbeats 8000000 in
set_option maxRecDepth 100000 in
theorem laws_FnExactIsPattern.calls (k : Nat) (a0 : ByteArray) (r : Bool) (w : World) (h : laws_FnExactIsPattern.f k a0 = some true) :
    Calls Tryd.prog 5 #[.string a0] w fun e w' => e = .returned (.bool true) ∧ Below w.heap.size w w' := by
  have HB := Aside0.mk (Below.refl w.heap.size w)
  have H : (if (a0.size : Int) > 1048576 then (some true) else ((spec_IsPattern.f k a0).bind fun t103 => ((impl_IsPattern.f a0).bind fun t104 => (if (t104 != t103) = true then (some false) else (some true))))) = some true := h
  clear h
  by_cases c2 : (a0.size : Int) > 1048576
  · rw [if_pos c2] at H
    have c2b0 : decide (1048576 < (a0.size : Int)) = true := decide_eq_true c2
    have c2b1 : decide (1048576 < a0.size) = true := decide_eq_true (by omega)
    clear c2
    (first | (obtain rfl := Option.some.inj H) | (have hH_ := Option.some.inj H; try simp only [hH_]))
    go_enter Tryd.func5, Tryd.ntmps5
    go_wp2
    go_ret
    exact ⟨by first | rfl | (simp [errW_none, errW_some] <;> rfl) | (simp [*, errW_none, errW_some] <;> rfl), by repeat (first | (with_reducible first | exact HB.out | apply below_alloc | apply pw_below_drewN | apply below_drew1) | exact HB.out)⟩
  · rw [if_neg c2] at H
    have c2b0 : decide (1048576 < (a0.size : Int)) = false := decide_eq_false c2
    have c2b1 : decide (1048576 < a0.size) = false := decide_eq_false (by omega)
    clear c2
    replace H := Option.bind_eq_some_iff.mp H
    obtain ⟨t103, A30, H⟩ := H
    replace H : ((impl_IsPattern.f a0).bind fun t104 => (if (t104 != t103) = true then (some false) else (some true))) = some true := H
    have A3 := Aside0.mk A30
    clear A30
    replace H := Option.bind_eq_some_iff.mp H
    obtain ⟨t104, A40, H⟩ := H
    replace H : (if (t104 != t103) = true then (some false) else (some true)) = some true := H
    have A4 := Aside0.mk A40
    clear A40
    by_cases c5 : (t104 != t103) = true
    · rw [if_pos c5] at H
      exact absurd H (by simp)
    · rw [if_neg c5] at H
      have c5b0 : (t104 != t103) = false := by simpa using c5
      (try (have c5b1 : decide (t104 = t103) = true := by simpa using c5))
      (try (have c5b2 : (t104 == t103) = true := by simpa using c5))
      clear c5
      (first | (obtain rfl := Option.some.inj H) | (have hH_ := Option.some.inj H; try simp only [hH_]))
      go_enter Tryd.func5, Tryd.ntmps5
      go_wp2_with (first | ((with_reducible refine gate_callee (f := 18) rfl ?_); refine goesL_ (some 9) rfl rfl Tryd.func18 (by kernel_rfl) rfl #[.string a0] rfl (by (try simp only [List.map_toArray, List.map_cons, List.map_nil]); first | done | rfl | (simp only [List.length_drop, List.length_take]; rfl)) ?_; (with_reducible refine (spec_IsPattern.calls k a0 t103 _ A3.out).mono ?_); rintro e w' ⟨rfl, ⟨nd, rfl⟩⟩; refine ⟨_, rfl, ?_⟩) | ((with_reducible refine gate_callee (f := 19) rfl ?_); refine goesL_ (some 11) rfl rfl Tryd.func19 (by kernel_rfl) rfl #[.string a0] rfl (by (try simp only [List.map_toArray, List.map_cons, List.map_nil]); first | done | rfl | (simp only [List.length_drop, List.length_take]; rfl)) ?_; (with_reducible refine (impl_IsPattern.calls a0 t104 _ A4.out).mono ?_); rintro e w7 ⟨rfl, hb⟩; refine ⟨_, rfl, ?_⟩; have n0_ := Aside0.mk (below_step (by repeat (first | (with_reducible first | exact HB.out | apply below_alloc | apply pw_below_drewN | apply below_drew1) | exact HB.out)) hb); clear HB; have HB := n0_; clear n0_; (try clear hb); (try clear hb2); (try clear hk); (try clear hi)))
      go_ret
      exact ⟨by first | rfl | (simp [errW_none, errW_some] <;> rfl) | (simp [*, errW_none, errW_some] <;> rfl), by repeat (first | (with_reducible first | exact HB.out | apply below_alloc | apply pw_below_drewN | apply below_drew1) | exact HB.out)⟩
end Go.Proofs.YtklddfkhbhkhdaaDoor.Q
namespace Go.Proofs.YtklddfkhbhkhdaaDoor.Q
open Go.RowKit Go.Proofs.YtklddfkhbhkhdaaDoorW.PrintWords Go.Proofs.YtklddfkhbhkhdaaDoorW.PrintLast
def Ev {α : Type} (F : Nat → Option α) (r : α) : Prop := ∃ K, ∀ k, K ≤ k → F k = some r
theorem Ev.pure {α : Type} (r : α) : Ev (fun _ => some r) r := ⟨0, fun _ _ => rfl⟩
theorem Ev.const {α : Type} {x : Option α} {r : α} (h : x = some r) : Ev (fun _ => x) r := ⟨0, fun _ _ => h⟩
theorem Ev.succ {α : Type} {F : Nat → Option α} {r : α} (h : Ev (fun k => F (k + 1)) r) : Ev F r := by
  obtain ⟨K, h⟩ := h
  refine ⟨K + 1, fun k hk => ?_⟩
  obtain ⟨j, rfl⟩ : ∃ j, k = j + 1 := ⟨k - 1, by omega⟩
  exact h j (by omega)
theorem Ev.bind {α β : Type} {F : Nat → Option α} {G : Nat → α → Option β} {t : α} {r : β} (h : Ev F t) (h2 : Ev (fun k => G k t) r) : Ev (fun k => (F k).bind (G k)) r := by
  obtain ⟨K, h⟩ := h
  obtain ⟨K2, h2⟩ := h2
  refine ⟨max K K2, fun k hk => ?_⟩
  simp only [h k (by omega), Option.bind_some]
  exact h2 k (by omega)
theorem Ev.bindc {α β : Type} {x : Option α} {G : Nat → α → Option β} {t : α} {r : β} (h : x = some t) (h2 : Ev (fun k => G k t) r) : Ev (fun k => x.bind (G k)) r := Ev.bind (Ev.const h) h2
theorem Ev.pos {α : Type} {c : Prop} [Decidable c] {F G : Nat → Option α} {r : α} (hc : c) (h : Ev F r) : Ev (fun k => if c then F k else G k) r := by simpa only [if_pos hc] using h
theorem Ev.neg {α : Type} {c : Prop} [Decidable c] {F G : Nat → Option α} {r : α} (hc : ¬ c) (h : Ev G r) : Ev (fun k => if c then F k else G k) r := by simpa only [if_neg hc] using h
theorem Ev.ex {α : Type} {F : Nat → Option α} {r : α} (h : Ev F r) : ∃ k, F k = some r := by obtain ⟨K, h⟩ := h; exact ⟨K, h K (Nat.le_refl _)⟩
theorem wnext (i : Nat) (h : i ≤ 4611686018427387904) : wrap64 ((i : Int) + 1) = ((i + 1 : Nat) : Int) := by unfold wrap64; omega
end Go.Proofs.YtklddfkhbhkhdaaDoor.Q
namespace Go.Proofs.YtklddfkhbhkhdaaDoor.Q
open Go.RowKit Go.Proofs.YtklddfkhbhkhdaaDoorW.PrintWords Go.Proofs.YtklddfkhbhkhdaaDoorW.PrintLast
def lwD (b : ByteArray) : List UInt8 := b.data.toList
theorem lwD_length (b : ByteArray) : (lwD b).length = b.size := by unfold lwD; rw [Array.length_toList]; rfl
def lettersD (w : ByteArray) : Prop := ∀ x ∈ lwD w, 97 ≤ x.toNat ∧ x.toNat ≤ 122
def okWordD (w : ByteArray) : Prop := w.size ≤ 12 ∧ lettersD w
theorem bt_natD (a : ByteArray) (i : Nat) (h : i < (lwD a).length) : bt a (i : Int) = (((lwD a)[i]'h).toNat : Int) := by
  have h2 : i < a.size := by rw [← lwD_length]; exact h
  have : ((i : Int)).toNat < a.size := by simpa using h2
  rw [← bt_at a (i : Int) this]
  rfl
instance (w : ByteArray) : Decidable (lettersD w) := inferInstanceAs (Decidable (∀ x ∈ lwD w, 97 ≤ x.toNat ∧ x.toNat ≤ 122))
instance (w : ByteArray) : Decidable (okWordD w) := inferInstanceAs (Decidable (w.size ≤ 12 ∧ lettersD w))
end Go.Proofs.YtklddfkhbhkhdaaDoor.Q
namespace Go.Proofs.YtklddfkhbhkhdaaDoor.Q
open Go.RowKit Go.Proofs.YtklddfkhbhkhdaaDoorW.PrintWords Go.Proofs.YtklddfkhbhkhdaaDoorW.PrintLast
def okSign (x : UInt8) : Prop := x.toNat = 63 ∨ x.toNat = 42 ∨ (97 ≤ x.toNat ∧ x.toNat ≤ 122)
instance (x : UInt8) : Decidable (okSign x) := inferInstanceAs (Decidable (x.toNat = 63 ∨ x.toNat = 42 ∨ (97 ≤ x.toNat ∧ x.toNat ≤ 122)))
def okPat (a : ByteArray) : Prop := a.size ≤ 14 ∧ ∀ x ∈ lwD a, okSign x
instance (a : ByteArray) : Decidable (okPat a) := inferInstanceAs (Decidable (a.size ≤ 14 ∧ ∀ x ∈ lwD a, okSign x))
theorem pat_impl (a : ByteArray) : impl_isPattern.f a = some (decide (okPat a)) := by
  unfold impl_isPattern.f
  refine congrArg some ?_
  rw [Bool.eq_iff_iff, Bool.and_eq_true, decide_eq_true_eq, decide_eq_true_eq]
  unfold okPat
  refine and_congr Iff.rfl ?_
  unfold lettersB stripW lwD
  rw [List.all_eq_true]
  have e : ∀ x : UInt8, (keepB x = true → 97 ≤ x.toNat ∧ x.toNat ≤ 122) ↔ okSign x := fun x => by
    unfold keepB okSign
    rw [Bool.and_eq_true, decide_eq_true_eq, decide_eq_true_eq]
    omega
  constructor
  · intro h x hx
    refine (e x).1 (fun hk => ?_)
    exact decide_eq_true_iff.1 (h x (by simpa using ⟨by simpa using hx, hk⟩))
  · intro h x hx
    have hx2 : x ∈ a.data.toList ∧ keepB x = true := List.mem_filter.1 hx
    exact decide_eq_true_iff.2 ((e x).2 (h x hx2.1) hx2.2)
theorem pat_l0 (a : ByteArray) : ∀ (n i : Nat), i + n = min a.size 15 → (∀ x ∈ (lwD a).take i, okSign x) → Ev (fun k => spec_l6Pattern.l0 k a (i : Int)) (decide (okPat a)) := by
  intro n
  induction n with
  | zero =>
    intro i h hx
    refine Ev.succ ?_
    simp only [spec_l6Pattern.l0]
    have e : decide ((a.size : Int) ≤ 14) = decide (okPat a) := by
      refine decide_eq_decide.2 ⟨fun hs => ⟨by omega, ?_⟩, fun h => by have := h.1; omega⟩
      rw [List.take_of_length_le (by rw [lwD_length]; omega)] at hx
      exact hx
    by_cases hs : i < a.size
    · refine Ev.pos (by omega) (Ev.succ ?_)
      simp only [spec_l6Pattern.j1]
      refine Ev.neg (by simp; omega) ?_
      rw [e]
      exact Ev.pure _
    · refine Ev.neg (by omega) (Ev.succ ?_)
      simp only [spec_l6Pattern.j1]
      refine Ev.neg (by decide) ?_
      rw [e]
      exact Ev.pure _
  | succ n ih =>
    intro i h hx
    refine Ev.succ ?_
    simp only [spec_l6Pattern.l0]
    have hi : i < (lwD a).length := by rw [lwD_length]; omega
    refine Ev.pos (by omega) (Ev.succ ?_)
    simp only [spec_l6Pattern.j1, bt_natD a i hi]
    refine Ev.pos (by simp; omega) (Ev.pos (by omega) (Ev.pos (by omega) ?_))
    have hnot : ¬ okSign ((lwD a)[i]) → decide (okPat a) = false := fun hq => decide_eq_false (fun ho => hq (ho.2 _ (List.getElem_mem hi)))
    have hnext : okSign ((lwD a)[i]) → Ev (fun k => spec_l6Pattern.l0 k a (wrap64 ((i : Int) + 1))) (decide (okPat a)) := fun ho => by
      rw [wnext i (by omega)]
      refine ih (i + 1) (by omega) (fun x hm => ?_)
      rw [List.take_succ_eq_append_getElem hi] at hm
      rcases List.mem_append.1 hm with hm | hm
      · exact hx x hm
      · rw [List.mem_singleton.1 hm]; exact ho
    by_cases h63 : ((lwD a)[i]).toNat = 63
    · exact Ev.pos (by omega) (hnext (.inl h63))
    refine Ev.neg (by omega) ?_
    by_cases h42 : ((lwD a)[i]).toNat = 42
    · exact Ev.pos (by omega) (hnext (.inr (.inl h42)))
    refine Ev.neg (by omega) ?_
    by_cases h1 : 97 ≤ ((lwD a)[i]).toNat
    · refine Ev.neg (by omega) ?_
      by_cases h2 : ((lwD a)[i]).toNat ≤ 122
      · exact Ev.neg (by omega) (hnext (.inr (.inr ⟨h1, h2⟩)))
      · rw [hnot (by unfold okSign; omega)]
        exact Ev.pos (by omega) (Ev.pure _)
    · rw [hnot (by unfold okSign; omega)]
      exact Ev.pos (by omega) (Ev.pure _)
end Go.Proofs.YtklddfkhbhkhdaaDoor.Q
set_option linter.unusedVariables false
namespace Go.Proofs.YtklddfkhbhkhdaaDoor.Pure
open Go.Proofs.YtklddfkhbhkhdaaDoor.Q Go.RowKit Go.Proofs.YtklddfkhbhkhdaaDoorW.PrintWords Go.Proofs.YtklddfkhbhkhdaaDoorW.PrintLast
theorem FnExactIsPattern (a0 : ByteArray) (hw_a0 : a0.size ≤ 140737488351232) : ∃ k, laws_FnExactIsPattern.f k a0 = some true := by
  refine Q.Ev.ex ?_
  unfold laws_FnExactIsPattern.f
  by_cases hs : (a0.size : Int) > 1048576
  · exact Q.Ev.pos hs (Q.Ev.pure _)
  · refine Q.Ev.neg hs (Q.Ev.bind (t := decide (okPat a0)) ?_ (Q.Ev.bindc (t := decide (okPat a0)) ?_ (Q.Ev.neg (by simp) (Q.Ev.pure _))))
    · unfold spec_IsPattern.f spec_l6Pattern.f
      exact Q.Ev.bind (pat_l0 a0 (min a0.size 15) 0 (by omega) (fun x hx => by cases hx)) (Q.Ev.pure _)
    · unfold impl_IsPattern.f
      rw [pat_impl a0]
      rfl
end Go.Proofs.YtklddfkhbhkhdaaDoor.Pure
namespace Go.Proofs.YtklddfkhbhkhdaaDoor.fnExactIsPattern
open Go.ChangeShapes Go.WideShapes Go.ChangeAt Go.RowKit
open Go.ChangeMaps (open_string shut_string)
set_option linter.unusedVariables false
theorem own : ownKnob Tryd.prog.godebug = none := by kernel_rfl
set_option maxRecDepth 100000 in
theorem lifted (os : Os) (started : os.Started) (H : Type) (enc : TypeId × Value → H) :
    ReturnsInHanded {} Tryd.checked os 5 .any (fun w args => (Rows.fnExactIsPatternSpec.pre enc Tryd.prog Tryd.f5 Rows.fnExactIsPatternRow.domain false w args ∧ laidMetH Tryd.prog Rows.fnExactIsPatternRow.laid w) ∧ sizedMet enc Tryd.prog Tryd.f5 (OpenSpec.ofChange Rows.fnExactIsPatternSpec) false w args) (Rows.fnExactIsPatternSpec.post enc Tryd.prog Tryd.f5 false true false false) := by
  refine returnsInHanded_of_change_and (C := Tryd.checked) (X := fun w _ => laidMetH Tryd.prog Rows.fnExactIsPatternRow.laid w) (fun _ _ _ hh h => h.of_heap hh) own started (by kernel_rfl) Tryd.func5
    (ChangeSpec.witness_shaped (enc := enc) (C := Tryd.checked) (os := os) (X := fun w _ => laidMetH Tryd.prog Rows.fnExactIsPatternRow.laid w) false (World.laidAll Tryd.prog os Rows.fnExactIsPatternRow.laid) #[.string ByteArray.empty] 8 (World.laidAll_os _ _ _)
      (World.shaped_of_ZipB (by kernel_rfl) (by kernel_rfl)) (by kernel_rfl) (by kernel_rfl) (by kernel_rfl)
      (by rw [MakeChecks.laidMetH_plain _ _ _ (by kernel_rfl)]; exact laidMet_laidAll _ (by kernel_rfl) (by kernel_rfl))) ?_
  intro W base args ds gs before hval0 hW hcnd hsz0 hL _
  have hsz : (DataW.weightsEach Tryd.prog (Tryd.f5.params.toList ++ Rows.fnExactIsPatternSpec.plain.varTypes Tryd.prog) (ds ++ gs)).all (· ≤ reachBytes) = true := hsz0
  have hval : ∀ (j : Nat) t v, Tryd.f5.params[j]? = some t → args[j]? = some v → Value.okWide Tryd.prog W .any base t v := hval0
  have hW' := hW
  obtain ⟨p, q, hA0, hV, rfl, hfz, hnd⟩ := hW
  have hA : DataW.TrodAll enc Tryd.prog W 0 (fun _ => true) true Tryd.f5.params.toList args.toList ds p := hA0
  rw [Tryd.params5] at hA hval hsz
  obtain ⟨v0, vs0, d0, ds0, p0, q0, hargs, rfl, rfl, h0, r0⟩ := trodAll_cons hA
  obtain ⟨rfl, rfl, rfl⟩ := trodAll_nil r0
  obtain rfl : args = #[v0] := by cases args; simp_all
  obtain ⟨rfl, rfl⟩ := trodVars_none hV
  obtain ⟨a0, rfl, rfl, rfl, y0⟩ := open_string Tryd.underlying9 (hval 0 9 v0 rfl rfl) h0
  have w0 : a0.size ≤ 140737488351232 := by
    have z := sized_string hsz (j := 0) (t := 9) rfl rfl
    rw [Array.length_toList] at z
    exact z
  clear hA0 hval0 hsz0 hsz
  obtain ⟨k, hk⟩ := Pure.FnExactIsPattern a0 w0
  refine (Q.laws_FnExactIsPattern.calls k a0 true W hk).mono fun e W' ⟨he, bel0⟩ => ?_
  have bel : Below W.heap.size W W' := bel0
  subst he
  exact ⟨_, rfl, _, _, _, [], _, [], hW', trodAll_mk1 (shut_bool Tryd.underlying4 _), (trodAll_cons_mk (shut_string Tryd.underlying9 y0) trodAll_mk0), rfl, bel.frame _, fun h => by cases h⟩
theorem over : Rows.fnExactIsPatternRow.holds Tryd.pinned (OpenSpec.ofChange Rows.fnExactIsPatternSpec) :=
  OpenClaim.holds_of_wide 5 Tryd.f5 rfl rfl rfl rfl rfl rfl rfl ⟨rfl, rfl, rfl, rfl, rfl⟩ rfl rfl rfl rfl rfl (by kernel_rfl) Tryd.func5 (by kernel_rfl)
    (of_decide_eq_true (by kernel_rfl)) (by unfold Func.isWrapper; first | (rw [if_pos (by decide +kernel)]; kernel_rfl) | (rw [if_neg (by decide +kernel)]; exact ⟨rfl, rfl⟩))
    (fun os started H enc _ => lifted os started H enc)
set_option maxRecDepth 100000 in
theorem proved : Rows.FnExactIsPatternCardSaid :=
  Claim7.holds_tied_plain_at .later [] [.data, .pinned] true (true, "2e950a33bd4384baa06fb028b9a6bdea735eae89257bfebfe682170664b9b05e") true over (fun _ h => by cases h) (by kernel_rfl) (fun _ h => by cases h) fnExactIsPattern_row_tie rfl ⟨rfl, rfl⟩ (by kernel_rfl) rfl
    (fun f fn hf hfn => by
      obtain rfl : f = 5 := Option.some.inj ((show Tryd.prog.funcNamed Tryd.f5.name = some 5 by kernel_rfl).symm.trans hf) |>.symm
      obtain rfl : fn = Tryd.f5 := (Option.some.inj (Tryd.func5.symm.trans hfn)).symm
      exact ⟨by kernel_rfl, fun j t ht => by
        rw [Tryd.params5] at ht
        have hm : t ∈ [9] := by simpa using Array.mem_of_getElem? ht
        have hall : ([9].all fun u => !Tryd.prog.wantsStandIn u) = true := by kernel_rfl
        exact (show Tryd.prog.wantsStandIn t = false by simpa using List.all_eq_true.1 hall t hm)⟩)
    (by kernel_rfl)
end Go.Proofs.YtklddfkhbhkhdaaDoor.fnExactIsPattern
namespace Go.Proofs.YtklddfkhbhkhdaaDoor
theorem fnExactIsPattern_holds : Rows.FnExactIsPatternCardSaid := fnExactIsPattern.proved
end Go.Proofs.YtklddfkhbhkhdaaDoor
