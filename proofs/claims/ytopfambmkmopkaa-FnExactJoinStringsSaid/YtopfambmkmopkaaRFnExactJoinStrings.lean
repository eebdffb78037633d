/- The law FnExactJoinStrings: for every input the call answers true and leaves its arguments as they were. -/
import Derived.Test.YtopfambmkmopkaaWWords
import Derived.Test.YtopfambmkmopkaaWLast
import Derived.Test.YtopfambmkmopkaaWApart
import Derived.Test.YtopfambmkmopkaaWFoot
import Derived.Test.YtopfambmkmopkaaWKept
import Derived.Test.YtopfambmkmopkaaWShare
import Derived.Test.YtopfambmkmopkaaWN
import Derived.Test.YtopfambmkmopkaaWMore
import Derived.Test.YtopfambmkmopkaaProg
import Derived.Below
import Derived.Deep.Draws
import Derived.Deep.AppendLies
import Derived.Maps.AppendAt
import Derived.OwnWalk
import Derived.Laws.BytesArg
import Derived.Laws.MakeOwn
import Derived.Laws.OwnMore
import Derived.Deep.OwnRows
import Derived.Tactics
import Derived.Lib.ConvBytes
import Derived.Laws.Slices
import Derived.WalkKit
import Derived.KernelRfl
import Derived.RowKit3
import Derived.Deep.LoopGhost
import Derived.Deep.QuietTactic
import Derived.BigQuiet
import Derived.WideLaws
import Derived.Deep.DeepCutAuto
import Derived.Deep.CutBlock
import Derived.Deep.RegionHeld3
import Derived.Laws.Rows
import Derived.Lib.AppendStr
import Derived.ArgAppend
import Derived.Laws.IdiomCopy
import Derived.OrdersHeld
import Derived.Laws.BitsLemmas
import Derived.RowKit
import Derived.Shelf.Strings.Search3
import Derived.Ground.NamesProg
import Derived.Ground.SlgfProg
import Derived.Shelf.Strings.OnBuilder
import Derived.Lib.IndexAny
import Derived.Lib.Join
import Derived.SliceStrings
import Derived.Deep.Slices
import Derived.ChangeSame
import Derived.ChangeArms
import Derived.WideShapes
import Derived.Test.YtopfambmkmopkaaRows
import Derived.ProofKit
import Derived.OpenShut
import Derived.ShutString
import Derived.ChangeOld
import Derived.SizedLaws
import Derived.Carry
set_option linter.unusedVariables false
set_option linter.unusedSimpArgs false
namespace Go.Proofs.Ytopfambmkmopkaa.Q
open Go.RowKit Go.Proofs.YtopfambmkmopkaaW.PrintWords Go.Proofs.YtopfambmkmopkaaW.PrintLast Go.Proofs.YtopfambmkmopkaaW.PrintMore
attribute [local go_sem] max2_int min2_int max_two min_two max_three min_three max_four min_four   -- for this text's walks alone
set_option linter.unusedVariables false
set_option linter.unusedSimpArgs false
def errW : Option Int → Value
  | none => .nilIface
  | some c => .iface 0 (.int .i64 c)
theorem errW_none : errW none = .nilIface := rfl
theorem errW_some (c : Int) : errW (some c) = .iface 0 (.int .i64 c) := rfl
theorem info9 : (Try.prog.info? 9).map (fun i => (i.zero, i.size, i.bytes)) = some (some (.string ⟨#[]⟩), 1, 16) := by kernel_rfl
def Sep (u v : Value) : Prop := ∀ k, u.ownBlock = some k → v.ownBlock = some k → False
theorem Sep.symm {u v : Value} (h : Sep u v) : Sep v u := fun k a b => h k b a
theorem isSome_setCell (w : World) (a b : Addr) (v : Value) : ((w.setCell a v).cell? b).isSome = (w.cell? b).isSome := by
  by_cases e : a = b
  · subst e
    simp only [World.setCell, World.cell?, Array.getElem?_modify, ↓reduceIte]
    cases w.heap[a.block]? with
    | none => rfl
    | some o =>
      cases o with
      | cells c t f =>
        simp only [Option.map_some]
        cases a.spot with
        | some z => simp
        | none => by_cases h : a.off < c.size <;> simp [h]
      | _ => rfl
  · rw [World.cell?_setCell_other _ _ _ _ e]
end Go.Proofs.Ytopfambmkmopkaa.Q
namespace Go.Proofs.Ytopfambmkmopkaa.Q
open Go.RowKit Go.Proofs.YtopfambmkmopkaaW.PrintWords Go.Proofs.YtopfambmkmopkaaW.PrintLast Go.Proofs.YtopfambmkmopkaaW.PrintMore
attribute [local go_sem] isSome_setCell max2_int min2_int max_two min_two max_three min_three max_four min_four   -- for this text's walks alone
set_option linter.unusedVariables false
set_option linter.unusedSimpArgs false
def laws_szStringS.l0 : Nat → List ByteArray → Int → Int → Option (Int)
  | 0, _, _, _ => none
  | k + 1, x0, x1, x5 => if x5 < (x0.length : Int) then (if 0 ≤ x5 then (if (wrap64 (x1 - ((rdOf ByteArray.empty x0 x5).size : Int))) < 0 then (some (-1)) else (laws_szStringS.l0 k x0 (wrap64 (x1 - ((rdOf ByteArray.empty x0 x5).size : Int))) (wrap64 (x5 + 1)))) else (none)) else (some x1)
def laws_szStringS.f (k : Nat) (l0 : List ByteArray) (a1 : Int) : Option (Int) := if (wrap64 (a1 - (l0.length : Int))) < 0 then (some (-1)) else (laws_szStringS.l0 k l0 (wrap64 (a1 - (l0.length : Int))) 0)
set_option maxHeartbeats 8000000 in
set_option maxRecDepth 100000 in
theorem laws_szStringS.calls (k : Nat) (A0 : Option Addr) (c0 : Nat) (l0 : List ByteArray) (a1 : Int) (r : Int) (w : World) (hr0 : Kd.C Kd.string w A0 l0.length l0) (hc0 : l0.length ≤ c0) (h : laws_szStringS.f k l0 a1 = some r) :
    Calls Try.prog 11 #[.slice A0 l0.length c0, .int .i64 a1] w fun e w' => e = .returned (.int .i64 r) ∧ Drawn0 w w' := by
  have HR0 := Aside0.mk hr0
  have HC0 := Aside0.mk hc0
  clear hr0 hc0
  have H : (if (wrap64 (a1 - (l0.length : Int))) < 0 then (some (-1)) else (laws_szStringS.l0 k l0 (wrap64 (a1 - (l0.length : Int))) 0)) = some r := h
  clear h
  by_cases c3 : (wrap64 (a1 - (l0.length : Int))) < 0
  · rw [if_pos c3] at H
    have c3b0 : decide ((wrap64 (a1 - (l0.length : Int))) < 0) = true := decide_eq_true c3
    clear c3
    obtain rfl := Option.some.inj H
    go_enter Try.func11, Try.ntmps11
    go_wp2
    go_ret
    exact ⟨by first | rfl | (simp; done) | (simp [*]; done), by repeat (first | exact Drawn0.refl _ | apply Drawn0.step)⟩
  · rw [if_neg c3] at H
    have c3b0 : decide ((wrap64 (a1 - (l0.length : Int))) < 0) = false := decide_eq_false c3
    clear c3
    have H' := Aside0.mk H
    clear H
    go_enter Try.func11, Try.ntmps11
    go_wp2
    go_loopg [1, 5] k (fun kq v1 v5 w' => ∃ (x1_1 : Int) (x5_1 : Int), v1 = .int .i64 x1_1 ∧ v5 = .int .i64 x5_1 ∧ Aside0 (laws_szStringS.l0 kq l0 x1_1 x5_1 = some r) ∧ Aside0 (kq ≤ k) ∧ Drawn0 w w')
    case atStart => exact ⟨(wrap64 (a1 - (l0.length : Int))), (0), (by first | rfl | (simp; done) | (simp [*]; done)), (by first | rfl | (simp; done) | (simp [*]; done)), H', ⟨Nat.le_refl _⟩, by repeat (first | exact Drawn0.refl _ | apply Drawn0.step)⟩
    case round =>
      clear H'
      try clear c1
      try clear p2
      try clear c3
      try clear c3b0
      obtain ⟨x1_1, x5_1, rfl, rfl, HA, HK1, ⟨m1, rfl⟩⟩ := hrel
      cases gk with
      | zero => exact absurd HA.out (by simp [laws_szStringS.l0])
      | succ k1 =>
        have H := HA.out
        clear HA
        simp only [laws_szStringS.l0] at H
        by_cases c4 : x5_1 < (l0.length : Int)
        · rw [if_pos c4] at H
          have c4b0 : decide (x5_1 < (l0.length : Int)) = true := decide_eq_true c4
          clear c4
          by_cases c5 : 0 ≤ x5_1
          · rw [if_pos c5] at H
            have c5b0 : decide (0 ≤ x5_1) = true := decide_eq_true c5
            clear c5
            by_cases c6 : (wrap64 (x1_1 - ((rdOf ByteArray.empty l0 x5_1).size : Int))) < 0
            · rw [if_pos c6] at H
              have c6b0 : decide ((wrap64 (x1_1 - ((rdOf ByteArray.empty l0 x5_1).size : Int))) < 0) = true := decide_eq_true c6
              clear c6
              obtain rfl := Option.some.inj H
              have p101 : 0 ≤ (x5_1 : Int) := of_decide_eq_true (by first | (with_reducible assumption) | assumption)
              have q101 : x5_1 < (l0.length : Int) := of_decide_eq_true (by first | (with_reducible assumption) | assumption)
              obtain ⟨ad101, e101, hx101_0⟩ := Kd.at_string HR0.out x5_1 p101 q101
              cases e101
              replace p101 := eq_true p101
              replace q101 := eq_true q101
              go_wp2
              go_ret
              exact ⟨by first | rfl | (simp; done) | (simp [*]; done), by repeat (first | exact Drawn0.refl _ | apply Drawn0.step)⟩
            · rw [if_neg c6] at H
              have c6b0 : decide ((wrap64 (x1_1 - ((rdOf ByteArray.empty l0 x5_1).size : Int))) < 0) = false := decide_eq_false c6
              clear c6
              have H' := Aside0.mk H
              clear H
              have p101 : 0 ≤ (x5_1 : Int) := of_decide_eq_true (by first | (with_reducible assumption) | assumption)
              have q101 : x5_1 < (l0.length : Int) := of_decide_eq_true (by first | (with_reducible assumption) | assumption)
              obtain ⟨ad101, e101, hx101_0⟩ := Kd.at_string HR0.out x5_1 p101 q101
              cases e101
              replace p101 := eq_true p101
              replace q101 := eq_true q101
              go_wp2
              go_roundg k1
              case measure => have := HK1.out; omega
              case rel => exact ⟨(wrap64 (x1_1 - ((rdOf ByteArray.empty l0 x5_1).size : Int))), (wrap64 (x5_1 + 1)), (by first | rfl | (simp; done) | (simp [*]; done)), (by first | rfl | (simp; done) | (simp [*]; done)), H', ⟨by have := HK1.out; omega⟩, by repeat (first | exact Drawn0.refl _ | apply Drawn0.step)⟩
          · rw [if_neg c5] at H
            exact absurd H (by simp)
        · rw [if_neg c4] at H
          have c4b0 : decide (x5_1 < (l0.length : Int)) = false := decide_eq_false c4
          clear c4
          obtain rfl := Option.some.inj H
          go_wp2
          go_ret
          exact ⟨by first | rfl | (simp; done) | (simp [*]; done), by repeat (first | exact Drawn0.refl _ | apply Drawn0.step)⟩
def spec_l1Stands.l0 : Nat → ByteArray → Int → Int → Option (Bool)
  | 0, _, _, _ => none
  | k + 1, x0, x1, x5 => if x5 < (x0.size : Int) then (if 0 ≤ x5 then (if (bt x0 x5) = x1 then (some true) else (spec_l1Stands.l0 k x0 x1 (wrap64 (x5 + 1)))) else (none)) else (some false)
def spec_l1Stands.f (k : Nat) (a0 : ByteArray) (a1 : Int) : Option (Bool) := spec_l1Stands.l0 k a0 a1 0
set_option maxHeartbeats 8000000 in
set_option maxRecDepth 100000 in
theorem spec_l1Stands.calls (k : Nat) (a0 : ByteArray) (a1 : Int) (r : Bool) (w : World) (h : spec_l1Stands.f k a0 a1 = some r) :
    Calls Try.prog 18 #[.string a0, .int .u8 a1] w fun e w' => e = .returned (.bool r) ∧ Drawn0 w w' := by
  have H : (spec_l1Stands.l0 k a0 a1 0) = some r := h
  clear h
  have H' := Aside0.mk H
  clear H
  go_enter Try.func18, Try.ntmps18
  go_wp2
  go_loopg [5] k (fun kq v5 w' => ∃ (x5_1 : Int), v5 = .int .i64 x5_1 ∧ Aside0 (spec_l1Stands.l0 kq a0 a1 x5_1 = some r) ∧ Aside0 (kq ≤ k) ∧ Drawn0 w w')
  case atStart => exact ⟨(0), (by first | rfl | (simp; done) | (simp [*]; done)), H', ⟨Nat.le_refl _⟩, by repeat (first | exact Drawn0.refl _ | apply Drawn0.step)⟩
  case round =>
    clear H'
    try clear c1
    try clear p2
    obtain ⟨x5_1, rfl, HA, HK1, ⟨m1, rfl⟩⟩ := hrel
    cases gk with
    | zero => exact absurd HA.out (by simp [spec_l1Stands.l0])
    | succ k1 =>
      have H := HA.out
      clear HA
      simp only [spec_l1Stands.l0] at H
      by_cases c3 : x5_1 < (a0.size : Int)
      · rw [if_pos c3] at H
        have c3b0 : decide (x5_1 < (a0.size : Int)) = true := decide_eq_true c3
        clear c3
        by_cases c4 : 0 ≤ x5_1
        · rw [if_pos c4] at H
          have c4b0 : decide (0 ≤ x5_1) = true := decide_eq_true c4
          clear c4
          by_cases c6 : (bt a0 x5_1) = a1
          · rw [if_pos c6] at H
            have c6b0 : ((bt a0 x5_1) == a1) = true := beq_iff_eq.mpr c6
            have c6b1 : ((bt a0 x5_1) != a1) = false := bne_eq_false_iff_eq.mpr c6
            clear c6
            obtain rfl := Option.some.inj H
            have p5 : 0 ≤ (x5_1 : Int) := of_decide_eq_true (by first | (with_reducible assumption) | assumption)
            have q5 : x5_1 < (a0.size : Int) := of_decide_eq_true (by first | (with_reducible assumption) | assumption)
            have hx5 := bt_at a0 x5_1
            replace p5 := eq_true p5
            replace q5 := eq_true q5
            go_wp2
            go_ret
            exact ⟨by first | rfl | (simp; done) | (simp [*]; done), by repeat (first | exact Drawn0.refl _ | apply Drawn0.step)⟩
          · rw [if_neg c6] at H
            have c6b0 : ((bt a0 x5_1) == a1) = false := beq_eq_false_iff_ne.mpr c6
            have c6b1 : ((bt a0 x5_1) != a1) = true := bne_iff_ne.mpr c6
            have H' := Aside0.mk H
            clear H
            have p5 : 0 ≤ (x5_1 : Int) := of_decide_eq_true (by first | (with_reducible assumption) | assumption)
            have q5 : x5_1 < (a0.size : Int) := of_decide_eq_true (by first | (with_reducible assumption) | assumption)
            have hx5 := bt_at a0 x5_1
            replace p5 := eq_true p5
            replace q5 := eq_true q5
            go_wp2
            go_roundg k1
            case measure => have := HK1.out; omega
            case rel => exact ⟨(wrap64 (x5_1 + 1)), (by first | rfl | (simp; done) | (simp [*]; done)), H', ⟨by have := HK1.out; omega⟩, by repeat (first | exact Drawn0.refl _ | apply Drawn0.step)⟩
        · rw [if_neg c4] at H
          exact absurd H (by simp)
      · rw [if_neg c3] at H
        have c3b0 : decide (x5_1 < (a0.size : Int)) = false := decide_eq_false c3
        clear c3
        obtain rfl := Option.some.inj H
        go_wp2
        go_ret
        exact ⟨by first | rfl | (simp; done) | (simp [*]; done), by repeat (first | exact Drawn0.refl _ | apply Drawn0.step)⟩
mutual
def spec_JoinStrings.j0 : Nat → List ByteArray → ByteArray → Bool → Option (ByteArray × Bool)
  | 0, _, _, _ => none
  | k + 1, x0, x1, x15 => if x15 = true then (some ((⟨#[]⟩ : ByteArray), false)) else (spec_JoinStrings.l0 k x0 x1 (⟨#[]⟩ : ByteArray) 0)
def spec_JoinStrings.l0 : Nat → List ByteArray → ByteArray → ByteArray → Int → Option (ByteArray × Bool)
  | 0, _, _, _, _ => none
  | k + 1, x0, x1, x6, x7 => if x7 < (x0.length : Int) then (if 0 ≤ x7 then (if 0 < (x1.size : Int) then ((spec_l1Stands.f k (rdOf ByteArray.empty x0 x7) (bt x1 0)).bind fun t103 => (if t103 = true then (some ((⟨#[]⟩ : ByteArray), false)) else (if x7 > 0 then (if x6.size + x1.size ≤ 9223372036854775807 then (if (x6 ++ x1).size + (rdOf ByteArray.empty x0 x7).size ≤ 9223372036854775807 then (if (((x6 ++ x1) ++ (rdOf ByteArray.empty x0 x7)).size : Int) > 4000 then (some ((⟨#[]⟩ : ByteArray), false)) else (spec_JoinStrings.l0 k x0 x1 ((x6 ++ x1) ++ (rdOf ByteArray.empty x0 x7)) (wrap64 (x7 + 1)))) else (none)) else (none)) else (if x6.size + (rdOf ByteArray.empty x0 x7).size ≤ 9223372036854775807 then (if ((x6 ++ (rdOf ByteArray.empty x0 x7)).size : Int) > 4000 then (some ((⟨#[]⟩ : ByteArray), false)) else (spec_JoinStrings.l0 k x0 x1 (x6 ++ (rdOf ByteArray.empty x0 x7)) (wrap64 (x7 + 1)))) else (none))))) else (none)) else (none)) else (some (x6, true))
end
def spec_JoinStrings.f (k : Nat) (l0 : List ByteArray) (a1 : ByteArray) : Option (ByteArray × Bool) := if (a1.size : Int) = 1 then (spec_JoinStrings.j0 k l0 a1 ((l0.length : Int) == 0)) else (spec_JoinStrings.j0 k l0 a1 true)
set_option maxHeartbeats 8000000 in
set_option maxRecDepth 100000 in
theorem spec_JoinStrings.calls (k : Nat) (A0 : Option Addr) (c0 : Nat) (l0 : List ByteArray) (a1 : ByteArray) (r1 : ByteArray) (r2 : Bool) (w : World) (hr0 : Kd.C Kd.string w A0 l0.length l0) (hc0 : l0.length ≤ c0) (h : spec_JoinStrings.f k l0 a1 = some (r1, r2)) :
    Calls Try.prog 12 #[.slice A0 l0.length c0, .string a1] w fun e w' => e = .returned (.tuple #[.string r1, .bool r2]) ∧ Drawn0 w w' := by
  have HR0 := Aside0.mk hr0
  have HC0 := Aside0.mk hc0
  clear hr0 hc0
  have H : (if (a1.size : Int) = 1 then (spec_JoinStrings.j0 k l0 a1 ((l0.length : Int) == 0)) else (spec_JoinStrings.j0 k l0 a1 true)) = some (r1, r2) := h
  clear h
  have HC3 := Aside0.mk H
  clear H
  go_enter Try.func12, Try.ntmps12
  go_upto_region 1 with (fail)
  repeat (go_quiet (fail); go_upto_region 1 with (fail))
  go_cut [15] (fun v15 wc => ∃ (kq : Nat) (x15_2 : Bool), v15 = .bool x15_2 ∧ Aside0 (spec_JoinStrings.j0 kq l0 a1 x15_2 = some (r1, r2)) ∧ Aside0 (kq ≤ k) ∧ Drawn0 w wc)
  case first =>
    have H := HC3.out
    clear HC3
    by_cases c4 : (a1.size : Int) = 1
    · rw [if_pos c4] at H
      have c4b0 : ((a1.size : Int) == 1) = true := beq_iff_eq.mpr c4
      have c4b1 : ((a1.size : Int) != 1) = false := bne_eq_false_iff_eq.mpr c4
      clear c4
      (first | rw [c4b0] | (simp only [i64_w, i32_w]; rw [c4b0]) | skip)
      have H' := Aside0.mk H
      clear H
      go_wp2
      repeat (go_quiet (fail); try go_wp2)
      go_meet
      case rel => exact ⟨_, (((l0.length : Int) == 0)), (by first | rfl | (simp; done) | (simp [*]; done)), H', ⟨by first | omega | exact Nat.le_refl _⟩, by repeat (first | exact Drawn0.refl _ | apply Drawn0.step)⟩
    · rw [if_neg c4] at H
      have c4b0 : ((a1.size : Int) == 1) = false := beq_eq_false_iff_ne.mpr c4
      have c4b1 : ((a1.size : Int) != 1) = true := bne_iff_ne.mpr c4
      (first | rw [c4b0] | (simp only [i64_w, i32_w]; rw [c4b0]) | skip)
      have H' := Aside0.mk H
      clear H
      go_wp2
      repeat (go_quiet (fail); try go_wp2)
      go_meet
      case rel => exact ⟨_, (true), (by first | rfl | (simp; done) | (simp [*]; done)), H', ⟨by first | omega | exact Nat.le_refl _⟩, by repeat (first | exact Drawn0.refl _ | apply Drawn0.step)⟩
  case rest =>
    clear HC3
    try clear c1
    try clear p2
    try clear c4
    try clear c4b0
    try clear c4b1
    obtain ⟨kq, x15_2, rfl, HA, HJ2, ⟨mc2, rfl⟩⟩ := hcut
    cases kq with
    | zero => exact absurd HA.out (by simp [spec_JoinStrings.j0])
    | succ kj2 =>
      have H := HA.out
      clear HA
      simp only [spec_JoinStrings.j0] at H
      by_cases c5 : x15_2 = true
      · subst c5
        have H1 : (some ((⟨#[]⟩ : ByteArray), false)) = some (r1, r2) := by rw [if_pos rfl] at H; exact H
        clear H
        have H := H1
        clear H1
        simp only [Option.some.injEq, Prod.mk.injEq] at H
        obtain ⟨rfl, rfl⟩ := H
        go_wp2
        repeat (go_quiet (fail); try go_wp2)
        go_ret2
        exact ⟨by first | rfl | (simp; done) | (simp [*]; done), by repeat (first | exact Drawn0.refl _ | apply Drawn0.step)⟩
      · replace c5 := Bool.eq_false_iff.mpr c5
        subst c5
        have H1 : (spec_JoinStrings.l0 kj2 l0 a1 (⟨#[]⟩ : ByteArray) 0) = some (r1, r2) := by rw [if_neg (show ¬ (false = true) by decide)] at H; exact H
        clear H
        have H := H1
        clear H1
        have H' := Aside0.mk H
        clear H
        go_wp2
        repeat (go_quiet (fail); try go_wp2)
        go_loopg [6, 7] kj2 (fun kq v6 v7 w' => ∃ (x6_2 : ByteArray) (x7_2 : Int), v6 = .string x6_2 ∧ v7 = .int .i64 x7_2 ∧ Aside0 (spec_JoinStrings.l0 kq l0 a1 x6_2 x7_2 = some (r1, r2)) ∧ Aside0 (kq ≤ kj2) ∧ Drawn0 w w')
        case atStart => exact ⟨((⟨#[]⟩ : ByteArray)), (0), (by first | rfl | (simp; done) | (simp [*]; done)), (by first | rfl | (simp; done) | (simp [*]; done)), H', ⟨Nat.le_refl _⟩, by repeat (first | exact Drawn0.refl _ | apply Drawn0.step)⟩
        case round =>
          clear H'
          try clear c1
          try clear c2
          try clear p2
          try clear c4
          try clear c4b0
          try clear c4b1
          try clear c5
          try clear p2
          obtain ⟨x6_2, x7_2, rfl, rfl, HA, HK2, ⟨m2, rfl⟩⟩ := hrel
          cases gk with
          | zero => exact absurd HA.out (by simp [spec_JoinStrings.l0])
          | succ k2 =>
            have H := HA.out
            clear HA
            simp only [spec_JoinStrings.l0] at H
            by_cases c6 : x7_2 < (l0.length : Int)
            · rw [if_pos c6] at H
              have c6b0 : decide (x7_2 < (l0.length : Int)) = true := decide_eq_true c6
              clear c6
              by_cases c7 : 0 ≤ x7_2
              · rw [if_pos c7] at H
                have c7b0 : decide (0 ≤ x7_2) = true := decide_eq_true c7
                clear c7
                by_cases c8 : 0 < (a1.size : Int)
                · rw [if_pos c8] at H
                  have c8b0 : decide (0 < (a1.size : Int)) = true := decide_eq_true c8
                  have c8b1 : decide (0 < a1.size) = true := decide_eq_true (by omega)
                  clear c8
                  replace H := Option.bind_eq_some_iff.mp H
                  obtain ⟨t103, A100, H⟩ := H
                  replace H : (if t103 = true then (some ((⟨#[]⟩ : ByteArray), false)) else (if x7_2 > 0 then (if x6_2.size + a1.size ≤ 9223372036854775807 then (if (x6_2 ++ a1).size + (rdOf ByteArray.empty l0 x7_2).size ≤ 9223372036854775807 then (if (((x6_2 ++ a1) ++ (rdOf ByteArray.empty l0 x7_2)).size : Int) > 4000 then (some ((⟨#[]⟩ : ByteArray), false)) else (spec_JoinStrings.l0 k2 l0 a1 ((x6_2 ++ a1) ++ (rdOf ByteArray.empty l0 x7_2)) (wrap64 (x7_2 + 1)))) else (none)) else (none)) else (if x6_2.size + (rdOf ByteArray.empty l0 x7_2).size ≤ 9223372036854775807 then (if ((x6_2 ++ (rdOf ByteArray.empty l0 x7_2)).size : Int) > 4000 then (some ((⟨#[]⟩ : ByteArray), false)) else (spec_JoinStrings.l0 k2 l0 a1 (x6_2 ++ (rdOf ByteArray.empty l0 x7_2)) (wrap64 (x7_2 + 1)))) else (none)))) = some (r1, r2) := H
                  have A10 := Aside0.mk A100
                  clear A100
                  by_cases c11 : t103 = true
                  · subst c11
                    have H1 : (some ((⟨#[]⟩ : ByteArray), false)) = some (r1, r2) := by rw [if_pos rfl] at H; exact H
                    clear H
                    have H := H1
                    clear H1
                    simp only [Option.some.injEq, Prod.mk.injEq] at H
                    obtain ⟨rfl, rfl⟩ := H
                    have p102 : 0 ≤ (x7_2 : Int) := of_decide_eq_true (by first | (with_reducible assumption) | assumption)
                    have q102 : x7_2 < (l0.length : Int) := of_decide_eq_true (by first | (with_reducible assumption) | assumption)
                    obtain ⟨ad102, e102, hx102_0⟩ := Kd.at_string HR0.out x7_2 p102 q102
                    cases e102
                    replace p102 := eq_true p102
                    replace q102 := eq_true q102
                    have p9 : 0 ≤ (0 : Int) := (by omega)
                    have q9 : 0 < a1.size := (by have : (0 : Int) < (a1.size : Int) := of_decide_eq_true (by first | (with_reducible assumption) | assumption); omega)
                    have hx9 : ∀ h : 0 < a1.size, ((a1[0]'h).toNat : Int) = bt a1 0 := bt_at a1 0
                    clear p9
                    have qi9 : (0 < (a1.size : Int)) = True := eq_true (of_decide_eq_true (by first | (with_reducible assumption) | assumption))
                    replace q9 := eq_true q9
                    go_wp2_with (first | (go_at_call 18; (with_reducible refine (spec_l1Stands.calls k2 (rdOf ByteArray.empty l0 x7_2) (bt a1 0) true _ A10.out).mono ?_); rintro e w' ⟨rfl, ⟨nd, rfl⟩⟩; (try first | exact ⟨rfl, _, World.drewN_drewN _ _ _⟩ | exact ⟨rfl, _, Eq.trans (World.drewN_drewN _ _ _) (congrArg (World.drewN _) (Nat.add_assoc _ _ _))⟩)))
                    repeat (go_quiet (first | (go_at_call 18; (with_reducible refine (spec_l1Stands.calls k2 (rdOf ByteArray.empty l0 x7_2) (bt a1 0) true _ A10.out).mono ?_); rintro e w' ⟨rfl, ⟨nd, rfl⟩⟩; (try first | exact ⟨rfl, _, World.drewN_drewN _ _ _⟩ | exact ⟨rfl, _, Eq.trans (World.drewN_drewN _ _ _) (congrArg (World.drewN _) (Nat.add_assoc _ _ _))⟩))); try go_wp2_with (first | (go_at_call 18; (with_reducible refine (spec_l1Stands.calls k2 (rdOf ByteArray.empty l0 x7_2) (bt a1 0) true _ A10.out).mono ?_); rintro e w' ⟨rfl, ⟨nd, rfl⟩⟩; (try first | exact ⟨rfl, _, World.drewN_drewN _ _ _⟩ | exact ⟨rfl, _, Eq.trans (World.drewN_drewN _ _ _) (congrArg (World.drewN _) (Nat.add_assoc _ _ _))⟩))))
                    go_ret2
                    exact ⟨by first | rfl | (simp; done) | (simp [*]; done), by repeat (first | exact Drawn0.refl _ | apply Drawn0.step)⟩
                  · replace c11 := Bool.eq_false_iff.mpr c11
                    subst c11
                    have H1 : (if x7_2 > 0 then (if x6_2.size + a1.size ≤ 9223372036854775807 then (if (x6_2 ++ a1).size + (rdOf ByteArray.empty l0 x7_2).size ≤ 9223372036854775807 then (if (((x6_2 ++ a1) ++ (rdOf ByteArray.empty l0 x7_2)).size : Int) > 4000 then (some ((⟨#[]⟩ : ByteArray), false)) else (spec_JoinStrings.l0 k2 l0 a1 ((x6_2 ++ a1) ++ (rdOf ByteArray.empty l0 x7_2)) (wrap64 (x7_2 + 1)))) else (none)) else (none)) else (if x6_2.size + (rdOf ByteArray.empty l0 x7_2).size ≤ 9223372036854775807 then (if ((x6_2 ++ (rdOf ByteArray.empty l0 x7_2)).size : Int) > 4000 then (some ((⟨#[]⟩ : ByteArray), false)) else (spec_JoinStrings.l0 k2 l0 a1 (x6_2 ++ (rdOf ByteArray.empty l0 x7_2)) (wrap64 (x7_2 + 1)))) else (none))) = some (r1, r2) := by rw [if_neg (show ¬ (false = true) by decide)] at H; exact H
                    clear H
                    have H := H1
                    clear H1
                    by_cases c12 : x7_2 > 0
                    · rw [if_pos c12] at H
                      have c12b0 : decide (0 < x7_2) = true := decide_eq_true c12
                      clear c12
                      by_cases c13 : x6_2.size + a1.size ≤ 9223372036854775807
                      · rw [if_pos c13] at H
                        have c13b0 := eq_true c13
                        have c13b1 : decide (x6_2.size + a1.size ≤ 9223372036854775807) = true := decide_eq_true c13
                        try have c13b2 : (9223372036854775807 < x6_2.size + a1.size) = False := eq_false (Nat.not_lt.2 c13)
                        by_cases c14 : (x6_2 ++ a1).size + (rdOf ByteArray.empty l0 x7_2).size ≤ 9223372036854775807
                        · rw [if_pos c14] at H
                          have c14b0 := eq_true c14
                          have c14b1 : decide ((x6_2 ++ a1).size + (rdOf ByteArray.empty l0 x7_2).size ≤ 9223372036854775807) = true := decide_eq_true c14
                          have c14b1z := c14b1
                          (try simp only [ByteArray.size_append, Int.natCast_add] at c14b1z)
                          try have c14b2 : (9223372036854775807 < (x6_2 ++ a1).size + (rdOf ByteArray.empty l0 x7_2).size) = False := eq_false (Nat.not_lt.2 c14)
                          by_cases c15 : (((x6_2 ++ a1) ++ (rdOf ByteArray.empty l0 x7_2)).size : Int) > 4000
                          · rw [if_pos c15] at H
                            have c15b0 : decide (4000 < (((x6_2 ++ a1) ++ (rdOf ByteArray.empty l0 x7_2)).size : Int)) = true := decide_eq_true c15
                            have c15b0z := c15b0
                            (try simp only [ByteArray.size_append, Int.natCast_add] at c15b0z)
                            have c15b1 : decide (4000 < ((x6_2 ++ a1) ++ (rdOf ByteArray.empty l0 x7_2)).size) = true := decide_eq_true (by omega)
                            have c15b1z := c15b1
                            (try simp only [ByteArray.size_append, Int.natCast_add] at c15b1z)
                            clear c15
                            simp only [Option.some.injEq, Prod.mk.injEq] at H
                            obtain ⟨rfl, rfl⟩ := H
                            have p102 : 0 ≤ (x7_2 : Int) := of_decide_eq_true (by first | (with_reducible assumption) | assumption)
                            have q102 : x7_2 < (l0.length : Int) := of_decide_eq_true (by first | (with_reducible assumption) | assumption)
                            obtain ⟨ad102, e102, hx102_0⟩ := Kd.at_string HR0.out x7_2 p102 q102
                            cases e102
                            replace p102 := eq_true p102
                            replace q102 := eq_true q102
                            have p9 : 0 ≤ (0 : Int) := (by omega)
                            have q9 : 0 < a1.size := (by have : (0 : Int) < (a1.size : Int) := of_decide_eq_true (by first | (with_reducible assumption) | assumption); omega)
                            have hx9 : ∀ h : 0 < a1.size, ((a1[0]'h).toNat : Int) = bt a1 0 := bt_at a1 0
                            clear p9
                            have qi9 : (0 < (a1.size : Int)) = True := eq_true (of_decide_eq_true (by first | (with_reducible assumption) | assumption))
                            replace q9 := eq_true q9
                            go_wp2_with (first | (go_at_call 18; (with_reducible refine (spec_l1Stands.calls k2 (rdOf ByteArray.empty l0 x7_2) (bt a1 0) false _ A10.out).mono ?_); rintro e w' ⟨rfl, ⟨nd, rfl⟩⟩; (try first | exact ⟨rfl, _, World.drewN_drewN _ _ _⟩ | exact ⟨rfl, _, Eq.trans (World.drewN_drewN _ _ _) (congrArg (World.drewN _) (Nat.add_assoc _ _ _))⟩); have p104 : 0 ≤ (x7_2 : Int) := of_decide_eq_true (by first | (with_reducible assumption) | assumption); have q104 : x7_2 < (l0.length : Int) := of_decide_eq_true (by first | (with_reducible assumption) | assumption); obtain ⟨ad104, e104, hx104_0⟩ := Kd.at_string HR0.out x7_2 p104 q104; obtain rfl : ad102 = ad104 := (by injection e104); replace p104 := eq_true p104; replace q104 := eq_true q104))
                            repeat (go_quiet (first | (go_at_call 18; (with_reducible refine (spec_l1Stands.calls k2 (rdOf ByteArray.empty l0 x7_2) (bt a1 0) false _ A10.out).mono ?_); rintro e w' ⟨rfl, ⟨nd, rfl⟩⟩; (try first | exact ⟨rfl, _, World.drewN_drewN _ _ _⟩ | exact ⟨rfl, _, Eq.trans (World.drewN_drewN _ _ _) (congrArg (World.drewN _) (Nat.add_assoc _ _ _))⟩); have p104 : 0 ≤ (x7_2 : Int) := of_decide_eq_true (by first | (with_reducible assumption) | assumption); have q104 : x7_2 < (l0.length : Int) := of_decide_eq_true (by first | (with_reducible assumption) | assumption); obtain ⟨ad104, e104, hx104_0⟩ := Kd.at_string HR0.out x7_2 p104 q104; obtain rfl : ad102 = ad104 := (by injection e104); replace p104 := eq_true p104; replace q104 := eq_true q104)); try go_wp2_with (first | (go_at_call 18; (with_reducible refine (spec_l1Stands.calls k2 (rdOf ByteArray.empty l0 x7_2) (bt a1 0) false _ A10.out).mono ?_); rintro e w' ⟨rfl, ⟨nd, rfl⟩⟩; (try first | exact ⟨rfl, _, World.drewN_drewN _ _ _⟩ | exact ⟨rfl, _, Eq.trans (World.drewN_drewN _ _ _) (congrArg (World.drewN _) (Nat.add_assoc _ _ _))⟩); have p104 : 0 ≤ (x7_2 : Int) := of_decide_eq_true (by first | (with_reducible assumption) | assumption); have q104 : x7_2 < (l0.length : Int) := of_decide_eq_true (by first | (with_reducible assumption) | assumption); obtain ⟨ad104, e104, hx104_0⟩ := Kd.at_string HR0.out x7_2 p104 q104; obtain rfl : ad102 = ad104 := (by injection e104); replace p104 := eq_true p104; replace q104 := eq_true q104)))
                            go_ret2
                            exact ⟨by first | rfl | (simp; done) | (simp [*]; done), by repeat (first | exact Drawn0.refl _ | apply Drawn0.step)⟩
                          · rw [if_neg c15] at H
                            have c15b0 : decide (4000 < (((x6_2 ++ a1) ++ (rdOf ByteArray.empty l0 x7_2)).size : Int)) = false := decide_eq_false c15
                            have c15b0z := c15b0
                            (try simp only [ByteArray.size_append, Int.natCast_add] at c15b0z)
                            have c15b1 : decide (4000 < ((x6_2 ++ a1) ++ (rdOf ByteArray.empty l0 x7_2)).size) = false := decide_eq_false (by omega)
                            have c15b1z := c15b1
                            (try simp only [ByteArray.size_append, Int.natCast_add] at c15b1z)
                            clear c15
                            have H' := Aside0.mk H
                            clear H
                            have p102 : 0 ≤ (x7_2 : Int) := of_decide_eq_true (by first | (with_reducible assumption) | assumption)
                            have q102 : x7_2 < (l0.length : Int) := of_decide_eq_true (by first | (with_reducible assumption) | assumption)
                            obtain ⟨ad102, e102, hx102_0⟩ := Kd.at_string HR0.out x7_2 p102 q102
                            cases e102
                            replace p102 := eq_true p102
                            replace q102 := eq_true q102
                            have p9 : 0 ≤ (0 : Int) := (by omega)
                            have q9 : 0 < a1.size := (by have : (0 : Int) < (a1.size : Int) := of_decide_eq_true (by first | (with_reducible assumption) | assumption); omega)
                            have hx9 : ∀ h : 0 < a1.size, ((a1[0]'h).toNat : Int) = bt a1 0 := bt_at a1 0
                            clear p9
                            have qi9 : (0 < (a1.size : Int)) = True := eq_true (of_decide_eq_true (by first | (with_reducible assumption) | assumption))
                            replace q9 := eq_true q9
                            go_wp2_with (first | (go_at_call 18; (with_reducible refine (spec_l1Stands.calls k2 (rdOf ByteArray.empty l0 x7_2) (bt a1 0) false _ A10.out).mono ?_); rintro e w' ⟨rfl, ⟨nd, rfl⟩⟩; (try first | exact ⟨rfl, _, World.drewN_drewN _ _ _⟩ | exact ⟨rfl, _, Eq.trans (World.drewN_drewN _ _ _) (congrArg (World.drewN _) (Nat.add_assoc _ _ _))⟩); have p104 : 0 ≤ (x7_2 : Int) := of_decide_eq_true (by first | (with_reducible assumption) | assumption); have q104 : x7_2 < (l0.length : Int) := of_decide_eq_true (by first | (with_reducible assumption) | assumption); obtain ⟨ad104, e104, hx104_0⟩ := Kd.at_string HR0.out x7_2 p104 q104; obtain rfl : ad102 = ad104 := (by injection e104); replace p104 := eq_true p104; replace q104 := eq_true q104))
                            repeat (go_quiet (first | (go_at_call 18; (with_reducible refine (spec_l1Stands.calls k2 (rdOf ByteArray.empty l0 x7_2) (bt a1 0) false _ A10.out).mono ?_); rintro e w' ⟨rfl, ⟨nd, rfl⟩⟩; (try first | exact ⟨rfl, _, World.drewN_drewN _ _ _⟩ | exact ⟨rfl, _, Eq.trans (World.drewN_drewN _ _ _) (congrArg (World.drewN _) (Nat.add_assoc _ _ _))⟩); have p104 : 0 ≤ (x7_2 : Int) := of_decide_eq_true (by first | (with_reducible assumption) | assumption); have q104 : x7_2 < (l0.length : Int) := of_decide_eq_true (by first | (with_reducible assumption) | assumption); obtain ⟨ad104, e104, hx104_0⟩ := Kd.at_string HR0.out x7_2 p104 q104; obtain rfl : ad102 = ad104 := (by injection e104); replace p104 := eq_true p104; replace q104 := eq_true q104)); try go_wp2_with (first | (go_at_call 18; (with_reducible refine (spec_l1Stands.calls k2 (rdOf ByteArray.empty l0 x7_2) (bt a1 0) false _ A10.out).mono ?_); rintro e w' ⟨rfl, ⟨nd, rfl⟩⟩; (try first | exact ⟨rfl, _, World.drewN_drewN _ _ _⟩ | exact ⟨rfl, _, Eq.trans (World.drewN_drewN _ _ _) (congrArg (World.drewN _) (Nat.add_assoc _ _ _))⟩); have p104 : 0 ≤ (x7_2 : Int) := of_decide_eq_true (by first | (with_reducible assumption) | assumption); have q104 : x7_2 < (l0.length : Int) := of_decide_eq_true (by first | (with_reducible assumption) | assumption); obtain ⟨ad104, e104, hx104_0⟩ := Kd.at_string HR0.out x7_2 p104 q104; obtain rfl : ad102 = ad104 := (by injection e104); replace p104 := eq_true p104; replace q104 := eq_true q104)))
                            go_roundg k2
                            case measure => have := HJ2.out; have := HK2.out; omega
                            case rel => exact ⟨((x6_2 ++ a1) ++ (rdOf ByteArray.empty l0 x7_2)), (wrap64 (x7_2 + 1)), (by first | rfl | (simp; done) | (simp [*]; done)), (by first | rfl | (simp; done) | (simp [*]; done)), H', ⟨by have := HJ2.out; have := HK2.out; omega⟩, by repeat (first | exact Drawn0.refl _ | apply Drawn0.step)⟩
                        · rw [if_neg c14] at H
                          exact absurd H (by simp)
                      · rw [if_neg c13] at H
                        exact absurd H (by simp)
                    · rw [if_neg c12] at H
                      have c12b0 : decide (0 < x7_2) = false := decide_eq_false c12
                      clear c12
                      by_cases c16 : x6_2.size + (rdOf ByteArray.empty l0 x7_2).size ≤ 9223372036854775807
                      · rw [if_pos c16] at H
                        have c16b0 := eq_true c16
                        have c16b1 : decide (x6_2.size + (rdOf ByteArray.empty l0 x7_2).size ≤ 9223372036854775807) = true := decide_eq_true c16
                        try have c16b2 : (9223372036854775807 < x6_2.size + (rdOf ByteArray.empty l0 x7_2).size) = False := eq_false (Nat.not_lt.2 c16)
                        by_cases c17 : ((x6_2 ++ (rdOf ByteArray.empty l0 x7_2)).size : Int) > 4000
                        · rw [if_pos c17] at H
                          have c17b0 : decide (4000 < ((x6_2 ++ (rdOf ByteArray.empty l0 x7_2)).size : Int)) = true := decide_eq_true c17
                          have c17b0z := c17b0
                          (try simp only [ByteArray.size_append, Int.natCast_add] at c17b0z)
                          have c17b1 : decide (4000 < (x6_2 ++ (rdOf ByteArray.empty l0 x7_2)).size) = true := decide_eq_true (by omega)
                          have c17b1z := c17b1
                          (try simp only [ByteArray.size_append, Int.natCast_add] at c17b1z)
                          clear c17
                          simp only [Option.some.injEq, Prod.mk.injEq] at H
                          obtain ⟨rfl, rfl⟩ := H
                          have p102 : 0 ≤ (x7_2 : Int) := of_decide_eq_true (by first | (with_reducible assumption) | assumption)
                          have q102 : x7_2 < (l0.length : Int) := of_decide_eq_true (by first | (with_reducible assumption) | assumption)
                          obtain ⟨ad102, e102, hx102_0⟩ := Kd.at_string HR0.out x7_2 p102 q102
                          cases e102
                          replace p102 := eq_true p102
                          replace q102 := eq_true q102
                          have p9 : 0 ≤ (0 : Int) := (by omega)
                          have q9 : 0 < a1.size := (by have : (0 : Int) < (a1.size : Int) := of_decide_eq_true (by first | (with_reducible assumption) | assumption); omega)
                          have hx9 : ∀ h : 0 < a1.size, ((a1[0]'h).toNat : Int) = bt a1 0 := bt_at a1 0
                          clear p9
                          have qi9 : (0 < (a1.size : Int)) = True := eq_true (of_decide_eq_true (by first | (with_reducible assumption) | assumption))
                          replace q9 := eq_true q9
                          go_wp2_with (first | (go_at_call 18; (with_reducible refine (spec_l1Stands.calls k2 (rdOf ByteArray.empty l0 x7_2) (bt a1 0) false _ A10.out).mono ?_); rintro e w' ⟨rfl, ⟨nd, rfl⟩⟩; (try first | exact ⟨rfl, _, World.drewN_drewN _ _ _⟩ | exact ⟨rfl, _, Eq.trans (World.drewN_drewN _ _ _) (congrArg (World.drewN _) (Nat.add_assoc _ _ _))⟩); have p105 : 0 ≤ (x7_2 : Int) := of_decide_eq_true (by first | (with_reducible assumption) | assumption); have q105 : x7_2 < (l0.length : Int) := of_decide_eq_true (by first | (with_reducible assumption) | assumption); obtain ⟨ad105, e105, hx105_0⟩ := Kd.at_string HR0.out x7_2 p105 q105; obtain rfl : ad102 = ad105 := (by injection e105); replace p105 := eq_true p105; replace q105 := eq_true q105))
                          repeat (go_quiet (first | (go_at_call 18; (with_reducible refine (spec_l1Stands.calls k2 (rdOf ByteArray.empty l0 x7_2) (bt a1 0) false _ A10.out).mono ?_); rintro e w' ⟨rfl, ⟨nd, rfl⟩⟩; (try first | exact ⟨rfl, _, World.drewN_drewN _ _ _⟩ | exact ⟨rfl, _, Eq.trans (World.drewN_drewN _ _ _) (congrArg (World.drewN _) (Nat.add_assoc _ _ _))⟩); have p105 : 0 ≤ (x7_2 : Int) := of_decide_eq_true (by first | (with_reducible assumption) | assumption); have q105 : x7_2 < (l0.length : Int) := of_decide_eq_true (by first | (with_reducible assumption) | assumption); obtain ⟨ad105, e105, hx105_0⟩ := Kd.at_string HR0.out x7_2 p105 q105; obtain rfl : ad102 = ad105 := (by injection e105); replace p105 := eq_true p105; replace q105 := eq_true q105)); try go_wp2_with (first | (go_at_call 18; (with_reducible refine (spec_l1Stands.calls k2 (rdOf ByteArray.empty l0 x7_2) (bt a1 0) false _ A10.out).mono ?_); rintro e w' ⟨rfl, ⟨nd, rfl⟩⟩; (try first | exact ⟨rfl, _, World.drewN_drewN _ _ _⟩ | exact ⟨rfl, _, Eq.trans (World.drewN_drewN _ _ _) (congrArg (World.drewN _) (Nat.add_assoc _ _ _))⟩); have p105 : 0 ≤ (x7_2 : Int) := of_decide_eq_true (by first | (with_reducible assumption) | assumption); have q105 : x7_2 < (l0.length : Int) := of_decide_eq_true (by first | (with_reducible assumption) | assumption); obtain ⟨ad105, e105, hx105_0⟩ := Kd.at_string HR0.out x7_2 p105 q105; obtain rfl : ad102 = ad105 := (by injection e105); replace p105 := eq_true p105; replace q105 := eq_true q105)))
                          go_ret2
                          exact ⟨by first | rfl | (simp; done) | (simp [*]; done), by repeat (first | exact Drawn0.refl _ | apply Drawn0.step)⟩
                        · rw [if_neg c17] at H
                          have c17b0 : decide (4000 < ((x6_2 ++ (rdOf ByteArray.empty l0 x7_2)).size : Int)) = false := decide_eq_false c17
                          have c17b0z := c17b0
                          (try simp only [ByteArray.size_append, Int.natCast_add] at c17b0z)
                          have c17b1 : decide (4000 < (x6_2 ++ (rdOf ByteArray.empty l0 x7_2)).size) = false := decide_eq_false (by omega)
                          have c17b1z := c17b1
                          (try simp only [ByteArray.size_append, Int.natCast_add] at c17b1z)
                          clear c17
                          have H' := Aside0.mk H
                          clear H
                          have p102 : 0 ≤ (x7_2 : Int) := of_decide_eq_true (by first | (with_reducible assumption) | assumption)
                          have q102 : x7_2 < (l0.length : Int) := of_decide_eq_true (by first | (with_reducible assumption) | assumption)
                          obtain ⟨ad102, e102, hx102_0⟩ := Kd.at_string HR0.out x7_2 p102 q102
                          cases e102
                          replace p102 := eq_true p102
                          replace q102 := eq_true q102
                          have p9 : 0 ≤ (0 : Int) := (by omega)
                          have q9 : 0 < a1.size := (by have : (0 : Int) < (a1.size : Int) := of_decide_eq_true (by first | (with_reducible assumption) | assumption); omega)
                          have hx9 : ∀ h : 0 < a1.size, ((a1[0]'h).toNat : Int) = bt a1 0 := bt_at a1 0
                          clear p9
                          have qi9 : (0 < (a1.size : Int)) = True := eq_true (of_decide_eq_true (by first | (with_reducible assumption) | assumption))
                          replace q9 := eq_true q9
                          go_wp2_with (first | (go_at_call 18; (with_reducible refine (spec_l1Stands.calls k2 (rdOf ByteArray.empty l0 x7_2) (bt a1 0) false _ A10.out).mono ?_); rintro e w' ⟨rfl, ⟨nd, rfl⟩⟩; (try first | exact ⟨rfl, _, World.drewN_drewN _ _ _⟩ | exact ⟨rfl, _, Eq.trans (World.drewN_drewN _ _ _) (congrArg (World.drewN _) (Nat.add_assoc _ _ _))⟩); have p105 : 0 ≤ (x7_2 : Int) := of_decide_eq_true (by first | (with_reducible assumption) | assumption); have q105 : x7_2 < (l0.length : Int) := of_decide_eq_true (by first | (with_reducible assumption) | assumption); obtain ⟨ad105, e105, hx105_0⟩ := Kd.at_string HR0.out x7_2 p105 q105; obtain rfl : ad102 = ad105 := (by injection e105); replace p105 := eq_true p105; replace q105 := eq_true q105))
                          repeat (go_quiet (first | (go_at_call 18; (with_reducible refine (spec_l1Stands.calls k2 (rdOf ByteArray.empty l0 x7_2) (bt a1 0) false _ A10.out).mono ?_); rintro e w' ⟨rfl, ⟨nd, rfl⟩⟩; (try first | exact ⟨rfl, _, World.drewN_drewN _ _ _⟩ | exact ⟨rfl, _, Eq.trans (World.drewN_drewN _ _ _) (congrArg (World.drewN _) (Nat.add_assoc _ _ _))⟩); have p105 : 0 ≤ (x7_2 : Int) := of_decide_eq_true (by first | (with_reducible assumption) | assumption); have q105 : x7_2 < (l0.length : Int) := of_decide_eq_true (by first | (with_reducible assumption) | assumption); obtain ⟨ad105, e105, hx105_0⟩ := Kd.at_string HR0.out x7_2 p105 q105; obtain rfl : ad102 = ad105 := (by injection e105); replace p105 := eq_true p105; replace q105 := eq_true q105)); try go_wp2_with (first | (go_at_call 18; (with_reducible refine (spec_l1Stands.calls k2 (rdOf ByteArray.empty l0 x7_2) (bt a1 0) false _ A10.out).mono ?_); rintro e w' ⟨rfl, ⟨nd, rfl⟩⟩; (try first | exact ⟨rfl, _, World.drewN_drewN _ _ _⟩ | exact ⟨rfl, _, Eq.trans (World.drewN_drewN _ _ _) (congrArg (World.drewN _) (Nat.add_assoc _ _ _))⟩); have p105 : 0 ≤ (x7_2 : Int) := of_decide_eq_true (by first | (with_reducible assumption) | assumption); have q105 : x7_2 < (l0.length : Int) := of_decide_eq_true (by first | (with_reducible assumption) | assumption); obtain ⟨ad105, e105, hx105_0⟩ := Kd.at_string HR0.out x7_2 p105 q105; obtain rfl : ad102 = ad105 := (by injection e105); replace p105 := eq_true p105; replace q105 := eq_true q105)))
                          go_roundg k2
                          case measure => have := HJ2.out; have := HK2.out; omega
                          case rel => exact ⟨(x6_2 ++ (rdOf ByteArray.empty l0 x7_2)), (wrap64 (x7_2 + 1)), (by first | rfl | (simp; done) | (simp [*]; done)), (by first | rfl | (simp; done) | (simp [*]; done)), H', ⟨by have := HJ2.out; have := HK2.out; omega⟩, by repeat (first | exact Drawn0.refl _ | apply Drawn0.step)⟩
                      · rw [if_neg c16] at H
                        exact absurd H (by simp)
                · rw [if_neg c8] at H
                  exact absurd H (by simp)
              · rw [if_neg c7] at H
                exact absurd H (by simp)
            · rw [if_neg c6] at H
              have c6b0 : decide (x7_2 < (l0.length : Int)) = false := decide_eq_false c6
              clear c6
              simp only [Option.some.injEq, Prod.mk.injEq] at H
              obtain ⟨rfl, rfl⟩ := H
              go_wp2
              repeat (go_quiet (fail); try go_wp2)
              go_ret2
              exact ⟨by first | rfl | (simp; done) | (simp [*]; done), by repeat (first | exact Drawn0.refl _ | apply Drawn0.step)⟩
def laws_toStringS.l0 : Nat → List ByteArray → List ByteArray → Int → Option (List ByteArray)
  | 0, _, _, _ => none
  | k + 1, x0, x3, x4 => if x4 < (x0.length : Int) then (if 0 ≤ x4 then (if x4 < (x3.length : Int) then (laws_toStringS.l0 k x0 (x3.set (x4 : Int).toNat (rdOf ByteArray.empty x0 x4)) (wrap64 (x4 + 1))) else (none)) else (none)) else (some x3)
def laws_toStringS.f (k : Nat) (l0 : List ByteArray) : Option (List ByteArray) := if 0 ≤ (l0.length : Int) then (if ((l0.length : Int) : Int).toNat ≤ 17592186044416 then (laws_toStringS.l0 k l0 (List.replicate ((l0.length : Int) : Int).toNat (⟨#[]⟩ : ByteArray)) 0) else (none)) else (none)
set_option maxHeartbeats 8000000 in
set_option maxRecDepth 100000 in
theorem laws_toStringS.calls (k : Nat) (A0 : Option Addr) (c0 : Nat) (l0 : List ByteArray) (r : List ByteArray) (w : World) (hr0 : Kd.C Kd.string w A0 l0.length l0) (hc0 : l0.length ≤ c0) (h : laws_toStringS.f k l0 = some r) :
    Calls Try.prog 13 #[.slice A0 l0.length c0] w fun e w' => ∃ v0_ : Value, e = .returned (v0_) ∧ Kd.R Kd.string 9 w' w.heap.size (fun _ => True) v0_ r ∧ Below w.heap.size w w' := by
  have HR0 := Aside0.mk hr0
  have HC0 := Aside0.mk hc0
  clear hr0 hc0
  have HB := Aside0.mk (Below.refl w.heap.size w)
  have H : (if 0 ≤ (l0.length : Int) then (if ((l0.length : Int) : Int).toNat ≤ 17592186044416 then (laws_toStringS.l0 k l0 (List.replicate ((l0.length : Int) : Int).toNat (⟨#[]⟩ : ByteArray)) 0) else (none)) else (none)) = some r := h
  clear h
  by_cases c2 : 0 ≤ (l0.length : Int)
  · rw [if_pos c2] at H
    have c2b0 := eq_true c2
    have c2b1 : decide (0 ≤ (l0.length : Int)) = true := decide_eq_true c2
    clear c2
    by_cases c3 : ((l0.length : Int) : Int).toNat ≤ 17592186044416
    · rw [if_pos c3] at H
      have c3b0 := eq_true c3
      have c3b1 : decide (((l0.length : Int) : Int).toNat ≤ 17592186044416) = true := decide_eq_true c3
      clear c3
      obtain ⟨y106, hy106⟩ : ∃ y_ : List ByteArray, y_ = (List.replicate ((l0.length : Int) : Int).toNat (⟨#[]⟩ : ByteArray)) := ⟨_, rfl⟩
      replace H : (laws_toStringS.l0 k l0 y106 0) = some r := by first | (rw [hy106]; with_reducible exact H) | (have H2_ := (Option.bind_some _ _).symm.trans H; rw [hy106]; with_reducible exact H2_) | (have H2_ := (Option.bind_some _ _).symm.trans H; with_reducible exact H2_) | with_reducible exact H | (rw [hy106]; exact H) | exact H
      have Ny106 := Aside0.mk hy106
      clear hy106
      have H' := Aside0.mk H
      clear H
      go_enter Try.func13, Try.ntmps13
      go_wp2_with (first | ((with_reducible refine gate_dst (N := 7) rfl ?_); refine Kd.R_make Kd.string _ 9 rfl (N := 7) rfl 27 _ _ rfl (l0.length : Int) rfl rfl Try.underlying27 (.string ⟨#[]⟩) 16 info9 rfl (by decide) (by omega) (⟨#[]⟩ : ByteArray) (ok := fun _ => True) (okp := fun _ => True) rfl (fun _ hk => hk) trivial (of_decide_eq_true (by first | (with_reducible assumption) | assumption)) (Nat.le_trans (Nat.mul_le_mul_right _ (of_decide_eq_true (by first | (with_reducible assumption) | assumption) : (l0.length : Int).toNat ≤ 17592186044416)) (by omega)) (Below.refl _ _) (Nat.le_refl _) ?_; intro v107 w4 ho5 hb hg_ hnew_; clear hg_ hnew_; (first | rw [← Ny106.out] at ho5 | (simp only [Int.reduceToNat] at ho5; rw [← Ny106.out] at ho5)); have n0_ := Aside0.mk (Kd.R_lower ho5 (below_size (by repeat (first | (with_reducible first | exact HB.out | apply below_alloc | apply pw_below_drewN | apply below_drew1) | exact HB.out)))); have n1_ := Aside0.mk (below_step (by repeat (first | (with_reducible first | exact HB.out | apply below_alloc | apply pw_below_drewN | apply below_drew1) | exact HB.out)) hb); clear HB; have HO108 := n0_; have HB := n1_; clear n0_ n1_; clear hb ho5))
      go_loopg [4] k (fun kq v4 w' => ∃ (x3_1 : List ByteArray) (x4_1 : Int), v4 = .int .i64 x4_1 ∧ Aside0 (laws_toStringS.l0 kq l0 x3_1 x4_1 = some r) ∧ Aside0 (kq ≤ k) ∧ Aside0 (Kd.R Kd.string 9 w' w.heap.size (fun _ => True) v107 x3_1) ∧ Aside0 (Below w.heap.size w w'))
      case atStart => exact ⟨(y106), (0), (by first | rfl | (simp; done) | (simp [*]; done)), H', ⟨Nat.le_refl _⟩, ⟨by (with_reducible repeat (first | apply Kd.R_alloc | apply Kd.R_drewN | apply Kd.R_drew)); exact HO108.out⟩, ⟨by repeat (first | (with_reducible first | exact HB.out | apply below_alloc | apply pw_below_drewN | apply below_drew1) | exact HB.out)⟩⟩
      case round =>
        clear H'
        try clear c1
        try clear c2
        try clear c2b0
        try clear c2b1
        try clear p2
        try clear c3
        try clear c3b0
        try clear c3b1
        obtain ⟨x3_1, x4_1, rfl, HA, HK1, HO_3, HB⟩ := hrel
        cases gk with
        | zero => exact absurd HA.out (by simp [laws_toStringS.l0])
        | succ k1 =>
          have H := HA.out
          clear HA
          simp only [laws_toStringS.l0] at H
          by_cases c6 : x4_1 < (l0.length : Int)
          · rw [if_pos c6] at H
            have c6b0 : decide (x4_1 < (l0.length : Int)) = true := decide_eq_true c6
            clear c6
            by_cases c7 : 0 ≤ x4_1
            · rw [if_pos c7] at H
              have c7b0 : decide (0 ≤ x4_1) = true := decide_eq_true c7
              clear c7
              by_cases c8 : x4_1 < (x3_1.length : Int)
              · rw [if_pos c8] at H
                have c8b0 : decide (x4_1 < (x3_1.length : Int)) = true := decide_eq_true c8
                clear c8
                obtain ⟨y110, hy110⟩ : ∃ y_ : List ByteArray, y_ = (x3_1.set (x4_1 : Int).toNat (rdOf ByteArray.empty l0 x4_1)) := ⟨_, rfl⟩
                replace H : (laws_toStringS.l0 k1 l0 y110 (wrap64 (x4_1 + 1))) = some r := by first | (rw [hy110]; with_reducible exact H) | (have H2_ := (Option.bind_some _ _).symm.trans H; rw [hy110]; with_reducible exact H2_) | (have H2_ := (Option.bind_some _ _).symm.trans H; with_reducible exact H2_) | with_reducible exact H | (rw [hy110]; exact H) | exact H
                have Ny110 := Aside0.mk hy110
                clear hy110
                have H' := Aside0.mk H
                clear H
                have p109 : 0 ≤ (x4_1 : Int) := of_decide_eq_true (by first | (with_reducible assumption) | assumption)
                have q109 : x4_1 < (l0.length : Int) := of_decide_eq_true (by first | (with_reducible assumption) | assumption)
                obtain ⟨ad109, e109, hx109_0⟩ := Kd.at_string HR0.out x4_1 p109 q109
                cases e109
                replace hx109_0 := (HB.out.cell (World.block_lt_of_cell? w _ hx109_0)).trans hx109_0
                replace p109 := eq_true p109
                replace q109 := eq_true q109
                have p9 : 0 ≤ (x4_1 : Int) := of_decide_eq_true (by first | (with_reducible assumption) | assumption)
                have q9 : (x4_1 : Int) < ((x3_1.length : Int) : Int) := of_decide_eq_true (by first | (with_reducible assumption) | assumption)
                obtain ⟨go9, co9, eo9, gb9, gl9, cl9, HG9⟩ := Kd.R_form HO_3.out (by omega)
                (first | cases eo9 | (injection eo9 with ea_ en_ ec_; (first | subst ea_ | (injection ea_ with ea_; subst ea_)); subst ec_; clear en_))
                have GB9 := Aside0.mk gb9
                have GG9 := Aside0.mk HG9
                clear gb9 gl9 HG9
                obtain ⟨hx9_0, hf9_0⟩ := Kd.R_celln (⟨#[]⟩ : ByteArray) HO_3.out (x4_1 : Int) p9 q9
                replace p9 := eq_true p9
                replace q9 := eq_true q9
                have HP10 := Kd.R_putg HO_3.out (x4_1 : Int) (rdOf ByteArray.empty l0 x4_1)
                go_wp2_with (first | ((with_reducible refine gate_store (t := 9) (p := 20) rfl ?_); refine store_event (t := 9) (p := 20) (v := ?vo_w11) (w1 := (wr.setCell ⟨go9, (x4_1 : Int).toNat, none⟩ (.string (rdOf ByteArray.empty l0 x4_1)))) ?hg ?ho ?hn ?hr ?_; (case ho => rfl); (case hg => rfl); (case hn => rfl); (case hr => first | (go_simp; done) | (go_simp; rfl)); intro w11 hw; have hg : wr.grownBy w11 (some go9) := (by rw [hw]; exact HP10.2); have hp_ : Kd.R Kd.string 9 w11 w.heap.size (fun _ => True) (.slice (some ⟨go9, 0, none⟩) x3_1.length co9) y110 := (by rw [hw, Ny110.out]; exact HP10.1); clear HP10; have n0_ := Aside0.mk (hp_); have n1_ := Aside0.mk ((by rw [hw]; exact below_set (HB.out) GB9.out : Below w.heap.size w w11)); clear HO_3; clear HB; have HO_3 := n0_; have HB := n1_; clear n0_ n1_; clear hg hw hp_))
                go_roundg k1
                case measure => have := HK1.out; omega
                case rel => exact ⟨(y110), (wrap64 (x4_1 + 1)), (by first | rfl | (simp; done) | (simp [*]; done)), H', ⟨by have := HK1.out; omega⟩, ⟨by (with_reducible repeat (first | apply Kd.R_alloc | apply Kd.R_drewN | apply Kd.R_drew)); exact HO_3.out⟩, ⟨by repeat (first | (with_reducible first | exact HB.out | apply below_alloc | apply pw_below_drewN | apply below_drew1) | exact HB.out)⟩⟩
              · rw [if_neg c8] at H
                exact absurd H (by simp)
            · rw [if_neg c7] at H
              exact absurd H (by simp)
          · rw [if_neg c6] at H
            have c6b0 : decide (x4_1 < (l0.length : Int)) = false := decide_eq_false c6
            clear c6
            obtain rfl := Option.some.inj H
            go_wp2
            go_ret
            exact ⟨_, by first | rfl | (simp [errW_none, errW_some] <;> rfl) | (simp [*, errW_none, errW_some] <;> rfl), by (with_reducible repeat (first | apply Kd.R_alloc | apply Kd.R_drewN | apply Kd.R_drew)); exact HO_3.out, by repeat (first | (with_reducible first | exact HB.out | apply below_alloc | apply pw_below_drewN | apply below_drew1) | exact HB.out)⟩
    · rw [if_neg c3] at H
      exact absurd H (by simp)
  · rw [if_neg c2] at H
    exact absurd H (by simp)
end Go.Proofs.Ytopfambmkmopkaa.Q
namespace Go.Proofs
open Go.Shelf
def Try.lContains_ren : Go.Shelf.Ren := ⟨fun | 144 => 19 | 143 => 21 | 219 => 25 | 217 => 28 | 225 => 29 | 224 => 30 | 267 => 31 | 266 => 34 | 314 => 35 | n => n, fun | 9 => 9 | 4 => 4 | 3 => 3 | 5 => 5 | 46 => 51 | 146 => 56 | 51 => 55 | n => n, fun | 1 => 0 | n => n⟩
theorem Try.lContains : Go.Proofs.Lays.n144 Try.prog Try.lContains_ren := {
  mixed := by kernel_rfl
  f143 := Try.func21.trans (congrArg some (by kernel_rfl))
  f144 := Try.func19.trans (congrArg some (by kernel_rfl))
  f217 := Try.func28.trans (congrArg some (by kernel_rfl))
  f219 := Try.func25.trans (congrArg some (by kernel_rfl))
  f224 := Try.func30.trans (congrArg some (by kernel_rfl))
  f225 := Try.func29.trans (congrArg some (by kernel_rfl))
  f266 := Try.func34.trans (congrArg some (by kernel_rfl))
  f267 := Try.func31.trans (congrArg some (by kernel_rfl))
  f314 := Try.func35.trans (congrArg some (by kernel_rfl))
  t3 := Try.underlying3
  a3 := Try.isAgg3
  z3 := Try.sizeOf3
  v3 := Try.zeroValue3
  t4 := Try.underlying4
  a4 := Try.isAgg4
  z4 := Try.sizeOf4
  v4 := Try.zeroValue4
  t5 := Try.underlying5
  a5 := Try.isAgg5
  z5 := Try.sizeOf5
  v5 := Try.zeroValue5
  t9 := Try.underlying9
  a9 := Try.isAgg9
  z9 := Try.sizeOf9
  v9 := Try.zeroValue9
  t46 := Try.underlying51
  a46 := Try.isAgg51
  z46 := Try.sizeOf51
  v46 := Try.zeroValue51
  t51 := Try.underlying55
  a51 := Try.isAgg55
  z51 := Try.sizeOf55
  v51 := Try.zeroValue55
  t146 := Try.underlying56
  a146 := Try.isAgg56
  z146 := Try.sizeOf56
  v146 := Try.zeroValue56
  g1 := by kernel_rfl }
end Go.Proofs
namespace Go.Proofs.Ytopfambmkmopkaa.Q
open Go.RowKit Go.Shelf Go.Proofs.YtopfambmkmopkaaW.PrintWords Go.Proofs.YtopfambmkmopkaaW.PrintLast Go.Proofs.YtopfambmkmopkaaW.PrintMore
def strings_Contains.f (a0 a1 : ByteArray) : Option Bool := match a1.data.toList with
  | [c] => some (decide (0 ≤ Lib.indexByte a0.data.toList c))
  | _ => none
theorem strings_Contains.calls (a0 a1 : ByteArray) (r : Bool) (w : World) (h : strings_Contains.f a0 a1 = some r) :
    Calls Try.prog 19 #[.string a0, .string a1] w fun e w' => e = .returned (.bool r) ∧ Below w.heap.size w w' := by
  unfold strings_Contains.f at h
  split at h
  case h_2 => cases h
  rename_i c hc
  obtain rfl := Option.some.inj h
  obtain ⟨⟨l⟩⟩ := a1
  simp only at hc
  subst hc
  refine (Any.strings_Contains_one Try.lContains a0 c w).mono ?_
  rintro e w' ⟨rfl, rfl⟩
  exact ⟨rfl, Below.refl _ _⟩
end Go.Proofs.Ytopfambmkmopkaa.Q
namespace Go.Proofs.Ytopfambmkmopkaa.Q
def lw (b : ByteArray) : List UInt8 := b.data.toList
def pw (l : List UInt8) : ByteArray := ⟨l.toArray⟩
end Go.Proofs.Ytopfambmkmopkaa.Q
namespace Go.Proofs
open Go.Shelf
def Try.lays156_ren : Go.Shelf.Ren := ⟨fun | 156 => 20 | 165 => 22 | 166 => 23 | 169 => 24 | 240 => 26 | 241 => 27 | 276 => 32 | 277 => 33 | n => n, fun | 31 => 27 | 9 => 9 | 3 => 3 | 4 => 4 | 0 => 0 | 20 => 20 | 72 => 41 | 76 => 45 | 70 => 38 | 37 => 39 | 75 => 44 | 127 => 48 | 164 => 52 | 5 => 5 | 80 => 47 | n => n, fun | n => n⟩
theorem Try.lays156 : Go.Proofs.Lays.n156 Try.prog Try.lays156_ren := {
  mixed := by kernel_rfl
  f156 := Try.func20.trans (congrArg some (by kernel_rfl))
  f165 := Try.func22.trans (congrArg some (by kernel_rfl))
  f166 := Try.func23.trans (congrArg some (by kernel_rfl))
  f169 := Try.func24.trans (congrArg some (by kernel_rfl))
  f240 := Try.func26.trans (congrArg some (by kernel_rfl))
  f241 := Try.func27.trans (congrArg some (by kernel_rfl))
  f276 := Try.func32.trans (congrArg some (by kernel_rfl))
  f277 := Try.func33.trans (congrArg some (by kernel_rfl))
  t0 := Try.underlying0
  a0 := Try.isAgg0
  z0 := Try.sizeOf0
  v0 := Try.zeroValue0
  t3 := Try.underlying3
  a3 := Try.isAgg3
  z3 := Try.sizeOf3
  v3 := Try.zeroValue3
  t4 := Try.underlying4
  a4 := Try.isAgg4
  z4 := Try.sizeOf4
  v4 := Try.zeroValue4
  t9 := Try.underlying9
  a9 := Try.isAgg9
  z9 := Try.sizeOf9
  v9 := Try.zeroValue9
  t20 := Try.underlying20
  a20 := Try.isAgg20
  z20 := Try.sizeOf20
  v20 := Try.zeroValue20
  t31 := Try.underlying27
  a31 := Try.isAgg27
  z31 := Try.sizeOf27
  v31 := Try.zeroValue27
  t37 := Try.underlying39
  a37 := Try.isAgg39
  z37 := Try.sizeOf39
  v37 := Try.zeroValue39
  t70 := Try.underlying38
  a70 := Try.isAgg38
  z70 := Try.sizeOf38
  v70 := Try.zeroValue38
  t72 := Try.underlying41
  a72 := Try.isAgg41
  z72 := Try.sizeOf41
  v72 := Try.zeroValue41
  t75 := Try.underlying44
  a75 := Try.isAgg44
  z75 := Try.sizeOf44
  v75 := Try.zeroValue44
  t76 := Try.underlying45
  a76 := Try.isAgg45
  z76 := Try.sizeOf45
  v76 := Try.zeroValue45
  t127 := Try.underlying48
  a127 := Try.isAgg48
  z127 := Try.sizeOf48
  v127 := Try.zeroValue48
  t164 := Try.underlying52
  a164 := Try.isAgg52
  z164 := Try.sizeOf52
  v164 := Try.zeroValue52 }
theorem Try.Builder_Extra_156 : Builder.Extra Try.prog Try.lays156_ren := {
  sizeBuilder := by kernel_rfl
  liesBuilder := by kernel_rfl
  t5 := Try.underlying5
  a5 := Try.isAgg5
  z5 := Try.sizeOf5
  v5 := Try.zeroValue5
  infoByte := by kernel_rfl
  cellsByte := by kernel_rfl
  sizeByte := by kernel_rfl
  neB5 := by decide }
end Go.Proofs
namespace Go.Proofs.Ytopfambmkmopkaa.Q
open Go.RowKit Go.Shelf Go.Proofs.YtopfambmkmopkaaW.PrintWords Go.Proofs.YtopfambmkmopkaaW.PrintLast Go.Proofs.YtopfambmkmopkaaW.PrintMore
theorem C_lit {w : World} {A : Option Addr} {l : List ByteArray} (h : Kd.C Kd.string w A l.length l) (hn : 0 < l.length) :
    ∃ bk o, A = some ⟨bk, o, none⟩ ∧ bk < w.heap.size ∧ ∀ (j : Nat) x, l[j]? = some x → w.cell? ⟨bk, o + j, none⟩ = some (.string x) := by
  obtain ⟨ad, rfl, h0⟩ := Kd.at_string h 0 (by omega) (by omega)
  obtain ⟨bk, o, sp⟩ := ad
  have hs : sp = none := by
    cases sp with
    | none => rfl
    | some z =>
      simp only [Int.toNat_zero, Addr.add_zero'] at h0
      unfold World.cell? at h0
      simp at h0
      split at h0 <;> cases h0
  subst hs
  refine ⟨bk, o, rfl, World.block_lt_of_cell? w _ h0, fun j x hx => ?_⟩
  obtain ⟨hj, rfl⟩ := List.getElem?_eq_some_iff.1 hx
  obtain ⟨ad, e, h1⟩ := Kd.at_string h (j : Int) (by omega) (by omega)
  injection e with e
  subst e
  rw [Int.toNat_natCast, Addr.add_lit] at h1
  rw [h1]
  simp [rdOf, hj]
def joinW (sep : ByteArray) (l : List ByteArray) : ByteArray := pw (Lib.join (l.map lw) (lw sep))
def okJoin (sep : ByteArray) (l : List ByteArray) : Bool := decide (l.length ≤ 140737488355328) && decide ((joinW sep l).size ≤ 140737488355328)
def strings_Join.f (l0 : List ByteArray) (a1 : ByteArray) : Option ByteArray := if okJoin a1 l0 = true then some (joinW a1 l0) else none
theorem strings_Join.calls (A0 : Option Addr) (c0 : Nat) (l0 : List ByteArray) (a1 : ByteArray) (r : ByteArray) (w : World) (hr0 : Kd.C Kd.string w A0 l0.length l0) (hc0 : l0.length ≤ c0) (h : strings_Join.f l0 a1 = some r) :
    Calls Try.prog 20 #[.slice A0 l0.length c0, .string a1] w fun e w' => e = .returned (.string r) ∧ Below w.heap.size w w' := by
  unfold strings_Join.f at h
  split at h
  case isFalse => cases h
  rename_i hk
  obtain rfl := Option.some.inj h
  simp only [okJoin, Bool.and_eq_true, decide_eq_true_eq] at hk
  by_cases hn : 0 < l0.length
  · obtain ⟨bk, o, rfl, hbk, hc⟩ := C_lit hr0 hn
    exact Any.strings_Join Try.lays156 Try.Builder_Extra_156 bk o c0 l0 a1 w hc hbk hk.1 hc0 (by have := hk.2; unfold joinW at this; rwa [ByteArray.size, pw, ← Array.length_toList] at this)
  · have h0 : l0 = [] := List.eq_nil_of_length_eq_zero (by omega)
    subst h0
    refine (Any.strings_Join_none Try.lays156 Try.Builder_Extra_156 A0 c0 a1 w).mono ?_
    rintro e w' ⟨rfl, rfl⟩
    exact ⟨rfl, Below.refl _ _⟩
end Go.Proofs.Ytopfambmkmopkaa.Q
namespace Go.Proofs.Ytopfambmkmopkaa.Q
open Go.RowKit Go.Proofs.YtopfambmkmopkaaW.PrintWords Go.Proofs.YtopfambmkmopkaaW.PrintLast Go.Proofs.YtopfambmkmopkaaW.PrintMore
attribute [local go_sem] isSome_setCell max2_int min2_int max_two min_two max_three min_three max_four min_four   -- for this text's walks alone
set_option linter.unusedVariables false
set_option linter.unusedSimpArgs false
mutual
def impl_JoinStrings.j0 : Nat → List ByteArray → ByteArray → Bool → Option (ByteArray × Bool)
  | 0, _, _, _ => none
  | k + 1, x0, x1, x16 => if x16 = true then (some ((⟨#[]⟩ : ByteArray), false)) else (impl_JoinStrings.l0 k x0 x1 (wrap64 ((x0.length : Int) - 1)) x0 (x0.length : Int) 0)
def impl_JoinStrings.l0 : Nat → List ByteArray → ByteArray → Int → List ByteArray → Int → Int → Option (ByteArray × Bool)
  | 0, _, _, _, _, _, _ => none
  | k + 1, x0, x1, x6, x20, x21, x22 => if x22 < x21 then (if 0 ≤ x22 then (if x22 < (x20.length : Int) then ((strings_Contains.f (rdOf ByteArray.empty x20 x22) x1).bind fun t112 => (if t112 = true then (some ((⟨#[]⟩ : ByteArray), false)) else (impl_JoinStrings.l0 k x0 x1 (wrap64 (x6 + ((rdOf ByteArray.empty x20 x22).size : Int))) x20 x21 (wrap64 (x22 + 1))))) else (none)) else (none)) else (if x6 > 4000 then (some ((⟨#[]⟩ : ByteArray), false)) else ((strings_Join.f x0 x1).bind fun t113 => (some (t113, true))))
end
def impl_JoinStrings.f (k : Nat) (l0 : List ByteArray) (a1 : ByteArray) : Option (ByteArray × Bool) := if (l0.length : Int) = 0 then (impl_JoinStrings.j0 k l0 a1 true) else (impl_JoinStrings.j0 k l0 a1 ((a1.size : Int) != 1))
set_option maxHeartbeats 8000000 in
set_option maxRecDepth 100000 in
theorem impl_JoinStrings.calls (k : Nat) (A0 : Option Addr) (c0 : Nat) (l0 : List ByteArray) (a1 : ByteArray) (r1 : ByteArray) (r2 : Bool) (w : World) (hr0 : Kd.C Kd.string w A0 l0.length l0) (hc0 : l0.length ≤ c0) (h : impl_JoinStrings.f k l0 a1 = some (r1, r2)) :
    Calls Try.prog 14 #[.slice A0 l0.length c0, .string a1] w fun e w' => e = .returned (.tuple #[.string r1, .bool r2]) ∧ Below w.heap.size w w' := by
  have HR0 := Aside0.mk hr0
  have HC0 := Aside0.mk hc0
  clear hr0 hc0
  have HB := Aside0.mk (Below.refl w.heap.size w)
  have H : (if (l0.length : Int) = 0 then (impl_JoinStrings.j0 k l0 a1 true) else (impl_JoinStrings.j0 k l0 a1 ((a1.size : Int) != 1))) = some (r1, r2) := h
  clear h
  have HC3 := Aside0.mk H
  clear H
  go_enter Try.func14, Try.ntmps14
  go_upto_region 1 with (fail)
  go_cut [16] (fun v16 wc => ∃ (kq : Nat) (x16_2 : Bool), v16 = .bool x16_2 ∧ Aside0 (impl_JoinStrings.j0 kq l0 a1 x16_2 = some (r1, r2)) ∧ Aside0 (kq ≤ k) ∧ Aside0 (Below w.heap.size w wc))
  case first =>
    have H := HC3.out
    clear HC3
    by_cases c4 : (l0.length : Int) = 0
    · rw [if_pos c4] at H
      have c4b0 : ((l0.length : Int) == 0) = true := beq_iff_eq.mpr c4
      have c4b1 : ((l0.length : Int) != 0) = false := bne_eq_false_iff_eq.mpr c4
      clear c4
      (first | rw [c4b0] | (simp only [i64_w, i32_w]; rw [c4b0]) | skip)
      have H' := Aside0.mk H
      clear H
      go_wp2
      go_meet
      case rel => exact ⟨_, (true), (by first | rfl | (simp; done) | (simp [*]; done)), H', ⟨by first | omega | exact Nat.le_refl _⟩, ⟨by repeat (first | (with_reducible first | exact HB.out | apply below_alloc | apply pw_below_drewN | apply below_drew1) | exact HB.out)⟩⟩
    · rw [if_neg c4] at H
      have c4b0 : ((l0.length : Int) == 0) = false := beq_eq_false_iff_ne.mpr c4
      have c4b1 : ((l0.length : Int) != 0) = true := bne_iff_ne.mpr c4
      have c4b2 : ¬ (l0 = []) := fun h_ => c4 (by rw [h_]; rfl)
      (first | rw [c4b0] | (simp only [i64_w, i32_w]; rw [c4b0]) | skip)
      have H' := Aside0.mk H
      clear H
      go_wp2
      go_meet
      case rel => exact ⟨_, (((a1.size : Int) != 1)), (by first | rfl | (simp; done) | (simp [*]; done)), H', ⟨by first | omega | exact Nat.le_refl _⟩, ⟨by repeat (first | (with_reducible first | exact HB.out | apply below_alloc | apply pw_below_drewN | apply below_drew1) | exact HB.out)⟩⟩
  case rest =>
    clear HC3
    try clear c1
    try clear p2
    try clear c4
    try clear c4b0
    try clear c4b1
    try clear c4b2
    obtain ⟨kq, x16_2, rfl, HA, HJ2, HB⟩ := hcut
    cases kq with
    | zero => exact absurd HA.out (by simp [impl_JoinStrings.j0])
    | succ kj2 =>
      have H := HA.out
      clear HA
      simp only [impl_JoinStrings.j0] at H
      by_cases c5 : x16_2 = true
      · subst c5
        have H1 : (some ((⟨#[]⟩ : ByteArray), false)) = some (r1, r2) := by rw [if_pos rfl] at H; exact H
        clear H
        have H := H1
        clear H1
        simp only [Option.some.injEq, Prod.mk.injEq] at H
        obtain ⟨rfl, rfl⟩ := H
        go_wp2
        go_ret2
        exact ⟨by first | rfl | (simp [errW_none, errW_some] <;> rfl) | (simp [*, errW_none, errW_some] <;> rfl), by repeat (first | (with_reducible first | exact HB.out | apply below_alloc | apply pw_below_drewN | apply below_drew1) | exact HB.out)⟩
      · replace c5 := Bool.eq_false_iff.mpr c5
        subst c5
        have H1 : (impl_JoinStrings.l0 kj2 l0 a1 (wrap64 ((l0.length : Int) - 1)) l0 (l0.length : Int) 0) = some (r1, r2) := by rw [if_neg (show ¬ (false = true) by decide)] at H; exact H
        clear H
        have H := H1
        clear H1
        have H' := Aside0.mk H
        clear H
        go_wp2
        go_loopg [6, 22] kj2 (fun kq v6 v22 w' => ∃ (x6_2 : Int) (x22_2 : Int), v6 = .int .i64 x6_2 ∧ v22 = .int .i64 x22_2 ∧ Aside0 (impl_JoinStrings.l0 kq l0 a1 x6_2 l0 (l0.length : Int) x22_2 = some (r1, r2)) ∧ Aside0 (kq ≤ kj2) ∧ Aside0 (Below w.heap.size w w'))
        case atStart => exact ⟨(wrap64 ((l0.length : Int) - 1)), (0), (by first | rfl | (simp; done) | (simp [*]; done)), (by first | rfl | (simp; done) | (simp [*]; done)), H', ⟨Nat.le_refl _⟩, ⟨by repeat (first | (with_reducible first | exact HB.out | apply below_alloc | apply pw_below_drewN | apply below_drew1) | exact HB.out)⟩⟩
        case round =>
          clear H'
          try clear c1
          try clear p2
          try clear c4
          try clear c4b0
          try clear c4b1
          try clear c4b2
          try clear c5
          try clear p2
          obtain ⟨x6_2, x22_2, rfl, rfl, HA, HK2, HB⟩ := hrel
          cases gk with
          | zero => exact absurd HA.out (by simp [impl_JoinStrings.l0])
          | succ k2 =>
            have H := HA.out
            clear HA
            simp only [impl_JoinStrings.l0] at H
            by_cases c6 : x22_2 < (l0.length : Int)
            · rw [if_pos c6] at H
              have c6b0 : decide (x22_2 < (l0.length : Int)) = true := decide_eq_true c6
              clear c6
              by_cases c7 : 0 ≤ x22_2
              · rw [if_pos c7] at H
                have c7b0 : decide (0 ≤ x22_2) = true := decide_eq_true c7
                clear c7
                by_cases c8 : x22_2 < (l0.length : Int)
                · rw [if_pos c8] at H
                  have c8b0 : decide (x22_2 < (l0.length : Int)) = true := decide_eq_true c8
                  clear c8
                  replace H := Option.bind_eq_some_iff.mp H
                  obtain ⟨t112, A90, H⟩ := H
                  replace H : (if t112 = true then (some ((⟨#[]⟩ : ByteArray), false)) else (impl_JoinStrings.l0 k2 l0 a1 (wrap64 (x6_2 + ((rdOf ByteArray.empty l0 x22_2).size : Int))) l0 (l0.length : Int) (wrap64 (x22_2 + 1)))) = some (r1, r2) := H
                  have A9 := Aside0.mk A90
                  clear A90
                  by_cases c10 : t112 = true
                  · subst c10
                    have H1 : (some ((⟨#[]⟩ : ByteArray), false)) = some (r1, r2) := by rw [if_pos rfl] at H; exact H
                    clear H
                    have H := H1
                    clear H1
                    simp only [Option.some.injEq, Prod.mk.injEq] at H
                    obtain ⟨rfl, rfl⟩ := H
                    have p111 : 0 ≤ (x22_2 : Int) := of_decide_eq_true (by first | (with_reducible assumption) | assumption)
                    have q111 : x22_2 < (l0.length : Int) := of_decide_eq_true (by first | (with_reducible assumption) | assumption)
                    obtain ⟨ad111, e111, hx111_0⟩ := Kd.at_string HR0.out x22_2 p111 q111
                    cases e111
                    replace hx111_0 := (HB.out.cell (World.block_lt_of_cell? w _ hx111_0)).trans hx111_0
                    replace p111 := eq_true p111
                    replace q111 := eq_true q111
                    go_wp2_with (first | ((with_reducible refine gate_callee (f := 19) rfl ?_); refine goesL_ (some 32) rfl rfl Try.func19 (by kernel_rfl) rfl #[.string (rdOf ByteArray.empty l0 x22_2), .string a1] rfl (by (try simp only [List.map_toArray, List.map_cons, List.map_nil]); first | done | rfl | (simp only [List.length_drop, List.length_take]; rfl)) ?_; (with_reducible refine (strings_Contains.calls (rdOf ByteArray.empty l0 x22_2) a1 true _ A9.out).mono ?_); rintro e w11 ⟨rfl, hb⟩; refine ⟨_, rfl, ?_⟩; have n0_ := Aside0.mk (below_step (by repeat (first | (with_reducible first | exact HB.out | apply below_alloc | apply pw_below_drewN | apply below_drew1) | exact HB.out)) hb); clear HB; have HB := n0_; clear n0_; (try clear hb); (try clear hb2); (try clear hk); (try clear hi)))
                    go_ret2
                    exact ⟨by first | rfl | (simp [errW_none, errW_some] <;> rfl) | (simp [*, errW_none, errW_some] <;> rfl), by repeat (first | (with_reducible first | exact HB.out | apply below_alloc | apply pw_below_drewN | apply below_drew1) | exact HB.out)⟩
                  · replace c10 := Bool.eq_false_iff.mpr c10
                    subst c10
                    have H1 : (impl_JoinStrings.l0 k2 l0 a1 (wrap64 (x6_2 + ((rdOf ByteArray.empty l0 x22_2).size : Int))) l0 (l0.length : Int) (wrap64 (x22_2 + 1))) = some (r1, r2) := by rw [if_neg (show ¬ (false = true) by decide)] at H; exact H
                    clear H
                    have H := H1
                    clear H1
                    have H' := Aside0.mk H
                    clear H
                    have p111 : 0 ≤ (x22_2 : Int) := of_decide_eq_true (by first | (with_reducible assumption) | assumption)
                    have q111 : x22_2 < (l0.length : Int) := of_decide_eq_true (by first | (with_reducible assumption) | assumption)
                    obtain ⟨ad111, e111, hx111_0⟩ := Kd.at_string HR0.out x22_2 p111 q111
                    cases e111
                    replace hx111_0 := (HB.out.cell (World.block_lt_of_cell? w _ hx111_0)).trans hx111_0
                    replace p111 := eq_true p111
                    replace q111 := eq_true q111
                    go_wp2_with (first | ((with_reducible refine gate_callee (f := 19) rfl ?_); refine goesL_ (some 32) rfl rfl Try.func19 (by kernel_rfl) rfl #[.string (rdOf ByteArray.empty l0 x22_2), .string a1] rfl (by (try simp only [List.map_toArray, List.map_cons, List.map_nil]); first | done | rfl | (simp only [List.length_drop, List.length_take]; rfl)) ?_; (with_reducible refine (strings_Contains.calls (rdOf ByteArray.empty l0 x22_2) a1 false _ A9.out).mono ?_); rintro e w12 ⟨rfl, hb⟩; refine ⟨_, rfl, ?_⟩; have n0_ := Aside0.mk (below_step (by repeat (first | (with_reducible first | exact HB.out | apply below_alloc | apply pw_below_drewN | apply below_drew1) | exact HB.out)) hb); clear HB; have HB := n0_; clear n0_; (try clear hb); (try clear hb2); (try clear hk); (try clear hi)))
                    go_roundg k2
                    case measure => have := HJ2.out; have := HK2.out; omega
                    case rel => exact ⟨(wrap64 (x6_2 + ((rdOf ByteArray.empty l0 x22_2).size : Int))), (wrap64 (x22_2 + 1)), (by first | rfl | (simp; done) | (simp [*]; done)), (by first | rfl | (simp; done) | (simp [*]; done)), H', ⟨by have := HJ2.out; have := HK2.out; omega⟩, ⟨by repeat (first | (with_reducible first | exact HB.out | apply below_alloc | apply pw_below_drewN | apply below_drew1) | exact HB.out)⟩⟩
                · rw [if_neg c8] at H
                  exact absurd H (by simp)
              · rw [if_neg c7] at H
                exact absurd H (by simp)
            · rw [if_neg c6] at H
              have c6b0 : decide (x22_2 < (l0.length : Int)) = false := decide_eq_false c6
              clear c6
              by_cases c13 : x6_2 > 4000
              · rw [if_pos c13] at H
                have c13b0 : decide (4000 < x6_2) = true := decide_eq_true c13
                clear c13
                simp only [Option.some.injEq, Prod.mk.injEq] at H
                obtain ⟨rfl, rfl⟩ := H
                go_wp2
                go_ret2
                exact ⟨by first | rfl | (simp [errW_none, errW_some] <;> rfl) | (simp [*, errW_none, errW_some] <;> rfl), by repeat (first | (with_reducible first | exact HB.out | apply below_alloc | apply pw_below_drewN | apply below_drew1) | exact HB.out)⟩
              · rw [if_neg c13] at H
                have c13b0 : decide (4000 < x6_2) = false := decide_eq_false c13
                clear c13
                replace H := Option.bind_eq_some_iff.mp H
                obtain ⟨t113, A140, H⟩ := H
                replace H : (some (t113, true)) = some (r1, r2) := H
                have A14 := Aside0.mk A140
                clear A140
                simp only [Option.some.injEq, Prod.mk.injEq] at H
                obtain ⟨rfl, rfl⟩ := H
                go_wp2_with (first | ((with_reducible refine gate_callee (f := 20) rfl ?_); refine goesL_ (some 38) rfl rfl Try.func20 (by kernel_rfl) rfl #[.slice A0 l0.length c0, .string a1] rfl (by (try simp only [List.map_toArray, List.map_cons, List.map_nil]); first | done | rfl | (simp only [List.length_drop, List.length_take]; rfl)) ?_; (with_reducible refine (strings_Join.calls _ _ l0 a1 t113 _ ?side1 ?side2 A14.out).mono ?_); (case side1 => repeat (first | exact (Kd.C_below HR0.out HB.out) | (with_reducible refine Kd.C_alloc ?_ _) | (with_reducible refine Kd.C_drewN ?_ _) | (with_reducible refine Kd.C_drew ?_))); (case side2 => exact HC0.out); rintro e w15 ⟨rfl, hb⟩; refine ⟨_, rfl, ?_⟩; have n0_ := Aside0.mk (below_step (by repeat (first | (with_reducible first | exact HB.out | apply below_alloc | apply pw_below_drewN | apply below_drew1) | exact HB.out)) hb); clear HB; have HB := n0_; clear n0_; (try clear hb); (try clear hb2); (try clear hk); (try clear hi)))
                go_ret2
                exact ⟨by first | rfl | (simp [errW_none, errW_some] <;> rfl) | (simp [*, errW_none, errW_some] <;> rfl), by repeat (first | (with_reducible first | exact HB.out | apply below_alloc | apply pw_below_drewN | apply below_drew1) | exact HB.out)⟩
def laws_eqStringS.l0 : Nat → List ByteArray → List ByteArray → Int → Option (Bool)
  | 0, _, _, _ => none
  | k + 1, x0, x1, x5 => if x5 < (x0.length : Int) then (if 0 ≤ x5 then (if x5 < (x1.length : Int) then (if (rdOf ByteArray.empty x0 x5).toList = (rdOf ByteArray.empty x1 x5).toList then (laws_eqStringS.l0 k x0 x1 (wrap64 (x5 + 1))) else (some false)) else (none)) else (none)) else (some true)
def laws_eqStringS.f (k : Nat) (l0 : List ByteArray) (l1 : List ByteArray) : Option (Bool) := if (l0.length : Int) = (l1.length : Int) then (laws_eqStringS.l0 k l0 l1 0) else (some false)
set_option maxHeartbeats 8000000 in
set_option maxRecDepth 100000 in
theorem laws_eqStringS.calls (k : Nat) (A0 : Option Addr) (c0 : Nat) (l0 : List ByteArray) (A1 : Option Addr) (c1 : Nat) (l1 : List ByteArray) (r : Bool) (w : World) (hr0 : Kd.C Kd.string w A0 l0.length l0) (hc0 : l0.length ≤ c0) (hr1 : Kd.C Kd.string w A1 l1.length l1) (hc1 : l1.length ≤ c1) (h : laws_eqStringS.f k l0 l1 = some r) :
    Calls Try.prog 15 #[.slice A0 l0.length c0, .slice A1 l1.length c1] w fun e w' => e = .returned (.bool r) ∧ Drawn0 w w' := by
  have HR0 := Aside0.mk hr0
  have HC0 := Aside0.mk hc0
  clear hr0 hc0
  have HR1 := Aside0.mk hr1
  have HC1 := Aside0.mk hc1
  clear hr1 hc1
  have H : (if (l0.length : Int) = (l1.length : Int) then (laws_eqStringS.l0 k l0 l1 0) else (some false)) = some r := h
  clear h
  by_cases c3 : (l0.length : Int) = (l1.length : Int)
  · rw [if_pos c3] at H
    have c3b0 : ((l0.length : Int) == (l1.length : Int)) = true := beq_iff_eq.mpr c3
    have c3b1 : ((l0.length : Int) != (l1.length : Int)) = false := bne_eq_false_iff_eq.mpr c3
    have c3b2 : (l0.length == l1.length) = true := by first | simpa using c3 | (simp at c3 ⊢; omega)
    clear c3
    have H' := Aside0.mk H
    clear H
    go_enter Try.func15, Try.ntmps15
    go_wp2
    repeat (go_quiet (fail); try go_wp2)
    go_loopg [5] k (fun kq v5 w' => ∃ (x5_1 : Int), v5 = .int .i64 x5_1 ∧ Aside0 (laws_eqStringS.l0 kq l0 l1 x5_1 = some r) ∧ Aside0 (kq ≤ k) ∧ Drawn0 w w')
    case atStart => exact ⟨(0), (by first | rfl | (simp; done) | (simp [*]; done)), H', ⟨Nat.le_refl _⟩, by repeat (first | exact Drawn0.refl _ | apply Drawn0.step)⟩
    case round =>
      clear H'
      try clear c1
      try clear p2
      try clear c3
      try clear c3b0
      try clear c3b1
      try clear c3b2
      obtain ⟨x5_1, rfl, HA, HK1, ⟨m1, rfl⟩⟩ := hrel
      cases gk with
      | zero => exact absurd HA.out (by simp [laws_eqStringS.l0])
      | succ k1 =>
        have H := HA.out
        clear HA
        simp only [laws_eqStringS.l0] at H
        by_cases c4 : x5_1 < (l0.length : Int)
        · rw [if_pos c4] at H
          have c4b0 : decide (x5_1 < (l0.length : Int)) = true := decide_eq_true c4
          clear c4
          by_cases c5 : 0 ≤ x5_1
          · rw [if_pos c5] at H
            have c5b0 : decide (0 ≤ x5_1) = true := decide_eq_true c5
            clear c5
            by_cases c6 : x5_1 < (l1.length : Int)
            · rw [if_pos c6] at H
              have c6b0 : decide (x5_1 < (l1.length : Int)) = true := decide_eq_true c6
              clear c6
              by_cases c7 : (rdOf ByteArray.empty l0 x5_1).toList = (rdOf ByteArray.empty l1 x5_1).toList
              · rw [if_pos c7] at H
                have c7b0 : ((rdOf ByteArray.empty l0 x5_1).toList == (rdOf ByteArray.empty l1 x5_1).toList) = true := beq_iff_eq.mpr c7
                have c7b1 : ((rdOf ByteArray.empty l0 x5_1).toList != (rdOf ByteArray.empty l1 x5_1).toList) = false := bne_eq_false_iff_eq.mpr c7
                clear c7
                have H' := Aside0.mk H
                clear H
                have p114 : 0 ≤ (x5_1 : Int) := of_decide_eq_true (by first | (with_reducible assumption) | assumption)
                have q114 : x5_1 < (l0.length : Int) := of_decide_eq_true (by first | (with_reducible assumption) | assumption)
                obtain ⟨ad114, e114, hx114_0⟩ := Kd.at_string HR0.out x5_1 p114 q114
                cases e114
                replace p114 := eq_true p114
                replace q114 := eq_true q114
                have p115 : 0 ≤ (x5_1 : Int) := of_decide_eq_true (by first | (with_reducible assumption) | assumption)
                have q115 : x5_1 < (l1.length : Int) := of_decide_eq_true (by first | (with_reducible assumption) | assumption)
                obtain ⟨ad115, e115, hx115_0⟩ := Kd.at_string HR1.out x5_1 p115 q115
                cases e115
                replace p115 := eq_true p115
                replace q115 := eq_true q115
                go_wp2
                repeat (go_quiet (fail); try go_wp2)
                go_roundg k1
                case measure => have := HK1.out; omega
                case rel => exact ⟨(wrap64 (x5_1 + 1)), (by first | rfl | (simp; done) | (simp [*]; done)), H', ⟨by have := HK1.out; omega⟩, by repeat (first | exact Drawn0.refl _ | apply Drawn0.step)⟩
              · rw [if_neg c7] at H
                have c7b0 : ((rdOf ByteArray.empty l0 x5_1).toList == (rdOf ByteArray.empty l1 x5_1).toList) = false := beq_eq_false_iff_ne.mpr c7
                have c7b1 : ((rdOf ByteArray.empty l0 x5_1).toList != (rdOf ByteArray.empty l1 x5_1).toList) = true := bne_iff_ne.mpr c7
                obtain rfl := Option.some.inj H
                have p114 : 0 ≤ (x5_1 : Int) := of_decide_eq_true (by first | (with_reducible assumption) | assumption)
                have q114 : x5_1 < (l0.length : Int) := of_decide_eq_true (by first | (with_reducible assumption) | assumption)
                obtain ⟨ad114, e114, hx114_0⟩ := Kd.at_string HR0.out x5_1 p114 q114
                cases e114
                replace p114 := eq_true p114
                replace q114 := eq_true q114
                have p115 : 0 ≤ (x5_1 : Int) := of_decide_eq_true (by first | (with_reducible assumption) | assumption)
                have q115 : x5_1 < (l1.length : Int) := of_decide_eq_true (by first | (with_reducible assumption) | assumption)
                obtain ⟨ad115, e115, hx115_0⟩ := Kd.at_string HR1.out x5_1 p115 q115
                cases e115
                replace p115 := eq_true p115
                replace q115 := eq_true q115
                go_wp2
                repeat (go_quiet (fail); try go_wp2)
                go_ret
                exact ⟨by first | rfl | (simp; done) | (simp [*]; done), by repeat (first | exact Drawn0.refl _ | apply Drawn0.step)⟩
            · rw [if_neg c6] at H
              exact absurd H (by simp)
          · rw [if_neg c5] at H
            exact absurd H (by simp)
        · rw [if_neg c4] at H
          have c4b0 : decide (x5_1 < (l0.length : Int)) = false := decide_eq_false c4
          clear c4
          obtain rfl := Option.some.inj H
          go_wp2
          repeat (go_quiet (fail); try go_wp2)
          go_ret
          exact ⟨by first | rfl | (simp; done) | (simp [*]; done), by repeat (first | exact Drawn0.refl _ | apply Drawn0.step)⟩
  · rw [if_neg c3] at H
    have c3b0 : ((l0.length : Int) == (l1.length : Int)) = false := beq_eq_false_iff_ne.mpr c3
    have c3b1 : ((l0.length : Int) != (l1.length : Int)) = true := bne_iff_ne.mpr c3
    have c3b2 : (l0.length == l1.length) = false := by first | simpa using c3 | (simp at c3 ⊢; omega)
    obtain rfl := Option.some.inj H
    go_enter Try.func15, Try.ntmps15
    go_wp2
    repeat (go_quiet (fail); try go_wp2)
    go_ret
    exact ⟨by first | rfl | (simp; done) | (simp [*]; done), by repeat (first | exact Drawn0.refl _ | apply Drawn0.step)⟩
def laws_FnExactJoinStrings.j0 : Nat → List ByteArray → List ByteArray → Bool → Option (Bool)
  | 0, _, _, _ => none
  | k + 1, x0, x8, x41 => if x41 = true then (some false) else ((laws_toStringS.f k x0).bind fun t127 => ((laws_eqStringS.f k x8 t127).bind fun t130 => (if t130 = true then (some true) else (some false))))
def laws_FnExactJoinStrings.f (k : Nat) (l0 : List ByteArray) (a1 : ByteArray) : Option (Bool) := if (a1.size : Int) > 1048576 then (some true) else ((laws_szStringS.f k l0 1048576).bind fun t116 => (if t116 < 0 then (some true) else ((laws_toStringS.f k l0).bind fun t117 => ((spec_JoinStrings.f k t117 a1).bind fun bt120 => ((laws_toStringS.f k l0).bind fun t122 => ((impl_JoinStrings.f k t122 a1).bind fun bt125 => (if bt125.1.toList = bt120.1.toList then (laws_FnExactJoinStrings.j0 k l0 t122 (bt125.2 != bt120.2)) else (laws_FnExactJoinStrings.j0 k l0 t122 true))))))))
set_option maxHeartbeats 8000000 in
set_option maxRecDepth 100000 in
theorem laws_FnExactJoinStrings.calls (k : Nat) (A0 : Option Addr) (c0 : Nat) (l0 : List ByteArray) (a1 : ByteArray) (r : Bool) (w : World) (hr0 : Kd.C Kd.string w A0 l0.length l0) (hc0 : l0.length ≤ c0) (h : laws_FnExactJoinStrings.f k l0 a1 = some true) :
    Calls Try.prog 6 #[.slice A0 l0.length c0, .string a1] w fun e w' => e = .returned (.bool true) ∧ Below w.heap.size w w' := by
  have HR0 := Aside0.mk hr0
  have HC0 := Aside0.mk hc0
  clear hr0 hc0
  have HB := Aside0.mk (Below.refl w.heap.size w)
  have H : (if (a1.size : Int) > 1048576 then (some true) else ((laws_szStringS.f k l0 1048576).bind fun t116 => (if t116 < 0 then (some true) else ((laws_toStringS.f k l0).bind fun t117 => ((spec_JoinStrings.f k t117 a1).bind fun bt120 => ((laws_toStringS.f k l0).bind fun t122 => ((impl_JoinStrings.f k t122 a1).bind fun bt125 => (if bt125.1.toList = bt120.1.toList then (laws_FnExactJoinStrings.j0 k l0 t122 (bt125.2 != bt120.2)) else (laws_FnExactJoinStrings.j0 k l0 t122 true))))))))) = some true := h
  clear h
  by_cases c3 : (a1.size : Int) > 1048576
  · rw [if_pos c3] at H
    have c3b0 : decide (1048576 < (a1.size : Int)) = true := decide_eq_true c3
    have c3b1 : decide (1048576 < a1.size) = true := decide_eq_true (by omega)
    clear c3
    (first | (obtain rfl := Option.some.inj H) | (have hH_ := Option.some.inj H; try simp only [hH_]))
    go_enter Try.func6, Try.ntmps6
    go_wp2
    go_ret
    exact ⟨by first | rfl | (simp [errW_none, errW_some] <;> rfl) | (simp [*, errW_none, errW_some] <;> rfl), by repeat (first | (with_reducible first | exact HB.out | apply below_alloc | apply pw_below_drewN | apply below_drew1) | exact HB.out)⟩
  · rw [if_neg c3] at H
    have c3b0 : decide (1048576 < (a1.size : Int)) = false := decide_eq_false c3
    have c3b1 : decide (1048576 < a1.size) = false := decide_eq_false (by omega)
    clear c3
    replace H := Option.bind_eq_some_iff.mp H
    obtain ⟨t116, A40, H⟩ := H
    replace H : (if t116 < 0 then (some true) else ((laws_toStringS.f k l0).bind fun t117 => ((spec_JoinStrings.f k t117 a1).bind fun bt120 => ((laws_toStringS.f k l0).bind fun t122 => ((impl_JoinStrings.f k t122 a1).bind fun bt125 => (if bt125.1.toList = bt120.1.toList then (laws_FnExactJoinStrings.j0 k l0 t122 (bt125.2 != bt120.2)) else (laws_FnExactJoinStrings.j0 k l0 t122 true))))))) = some true := H
    have A4 := Aside0.mk A40
    clear A40
    by_cases c5 : t116 < 0
    · rw [if_pos c5] at H
      have c5b0 : decide (t116 < 0) = true := decide_eq_true c5
      clear c5
      (first | (obtain rfl := Option.some.inj H) | (have hH_ := Option.some.inj H; try simp only [hH_]))
      go_enter Try.func6, Try.ntmps6
      go_wp2_with (first | ((with_reducible refine gate_callee (f := 11) rfl ?_); refine goesL_ (some 16) rfl rfl Try.func11 (by kernel_rfl) rfl #[.slice A0 l0.length c0, .int .i64 1048576] rfl (by (try simp only [List.map_toArray, List.map_cons, List.map_nil]); first | done | rfl | (simp only [List.length_drop, List.length_take]; rfl)) ?_; (with_reducible refine (laws_szStringS.calls k _ _ l0 1048576 t116 _ ?side1 ?side2 A4.out).mono ?_); (case side1 => repeat (first | exact HR0.out | (with_reducible refine Kd.C_alloc ?_ _) | (with_reducible refine Kd.C_drewN ?_ _) | (with_reducible refine Kd.C_drew ?_))); (case side2 => exact HC0.out); rintro e w' ⟨rfl, ⟨nd, rfl⟩⟩; refine ⟨_, rfl, ?_⟩))
      go_ret
      exact ⟨by first | rfl | (simp [errW_none, errW_some] <;> rfl) | (simp [*, errW_none, errW_some] <;> rfl), by repeat (first | (with_reducible first | exact HB.out | apply below_alloc | apply pw_below_drewN | apply below_drew1) | exact HB.out)⟩
    · rw [if_neg c5] at H
      have c5b0 : decide (t116 < 0) = false := decide_eq_false c5
      clear c5
      replace H := Option.bind_eq_some_iff.mp H
      obtain ⟨t117, A60, H⟩ := H
      replace H : ((spec_JoinStrings.f k t117 a1).bind fun bt120 => ((laws_toStringS.f k l0).bind fun t122 => ((impl_JoinStrings.f k t122 a1).bind fun bt125 => (if bt125.1.toList = bt120.1.toList then (laws_FnExactJoinStrings.j0 k l0 t122 (bt125.2 != bt120.2)) else (laws_FnExactJoinStrings.j0 k l0 t122 true))))) = some true := H
      have A6 := Aside0.mk A60
      clear A60
      replace H := Option.bind_eq_some_iff.mp H
      obtain ⟨⟨t120, t121⟩, A70, H⟩ := H
      replace H : ((laws_toStringS.f k l0).bind fun t122 => ((impl_JoinStrings.f k t122 a1).bind fun bt125 => (if bt125.1.toList = t120.toList then (laws_FnExactJoinStrings.j0 k l0 t122 (bt125.2 != t121)) else (laws_FnExactJoinStrings.j0 k l0 t122 true)))) = some true := H
      have A7 := Aside0.mk A70
      clear A70
      replace H := Option.bind_eq_some_iff.mp H
      obtain ⟨t122, A80, H⟩ := H
      replace H : ((impl_JoinStrings.f k t122 a1).bind fun bt125 => (if bt125.1.toList = t120.toList then (laws_FnExactJoinStrings.j0 k l0 t122 (bt125.2 != t121)) else (laws_FnExactJoinStrings.j0 k l0 t122 true))) = some true := H
      have A8 := Aside0.mk A80
      clear A80
      replace H := Option.bind_eq_some_iff.mp H
      obtain ⟨⟨t125, t126⟩, A90, H⟩ := H
      replace H : (if t125.toList = t120.toList then (laws_FnExactJoinStrings.j0 k l0 t122 (t126 != t121)) else (laws_FnExactJoinStrings.j0 k l0 t122 true)) = some true := H
      have A9 := Aside0.mk A90
      clear A90
      have HC10 := Aside0.mk H
      clear H
      go_enter Try.func6, Try.ntmps6
      go_upto_region 10 with (first | ((with_reducible refine gate_callee (f := 11) rfl ?_); refine goesL_ (some 16) rfl rfl Try.func11 (by kernel_rfl) rfl #[.slice A0 l0.length c0, .int .i64 1048576] rfl (by (try simp only [List.map_toArray, List.map_cons, List.map_nil]); first | done | rfl | (simp only [List.length_drop, List.length_take]; rfl)) ?_; (with_reducible refine (laws_szStringS.calls k _ _ l0 1048576 t116 _ ?side1 ?side2 A4.out).mono ?_); (case side1 => repeat (first | exact HR0.out | (with_reducible refine Kd.C_alloc ?_ _) | (with_reducible refine Kd.C_drewN ?_ _) | (with_reducible refine Kd.C_drew ?_))); (case side2 => exact HC0.out); rintro e w' ⟨rfl, ⟨nd, rfl⟩⟩; refine ⟨_, rfl, ?_⟩) | ((with_reducible refine gate_callee (f := 13) rfl ?_); refine goesL_ (some 21) rfl rfl Try.func13 (by kernel_rfl) rfl #[.slice A0 l0.length c0] rfl (by (try simp only [List.map_toArray, List.map_cons, List.map_nil]); first | done | rfl | (simp only [List.length_drop, List.length_take]; rfl)) ?_; (with_reducible refine (laws_toStringS.calls k _ _ l0 t117 _ ?side1 ?side2 A6.out).mono ?_); (case side1 => repeat (first | exact HR0.out | (with_reducible refine Kd.C_alloc ?_ _) | (with_reducible refine Kd.C_drewN ?_ _) | (with_reducible refine Kd.C_drew ?_))); (case side2 => exact HC0.out); rintro e w11 ⟨v118, rfl, ho0, hb⟩; refine ⟨_, rfl, ?_⟩; have n0_ := Aside0.mk (Kd.R_lower ho0 (below_size (by repeat (first | (with_reducible first | exact HB.out | apply below_alloc | apply pw_below_drewN | apply below_drew1) | exact HB.out)))); have n1_ := Aside0.mk (below_step (by repeat (first | (with_reducible first | exact HB.out | apply below_alloc | apply pw_below_drewN | apply below_drew1) | exact HB.out)) hb); clear HB; have HO119 := n0_; have HB := n1_; clear n0_ n1_; (try clear hb); (try clear hb2); (try clear hk); (try clear hi); (try clear ho0); obtain ⟨Ao12, co12, eo12⟩ := Kd.R_slice HO119.out; subst eo12) | ((with_reducible refine gate_callee (f := 12) rfl ?_); refine goesL_ (some 23) rfl rfl Try.func12 (by kernel_rfl) rfl #[.slice Ao12 t117.length co12, .string a1] rfl (by (try simp only [List.map_toArray, List.map_cons, List.map_nil]); first | done | rfl | (simp only [List.length_drop, List.length_take]; rfl)) ?_; (with_reducible refine (spec_JoinStrings.calls k _ _ t117 a1 t120 t121 _ ?side1 ?side2 A7.out).mono ?_); (case side1 => repeat (first | exact (Kd.R_reads' HO119.out).2.2 | (with_reducible refine Kd.C_alloc ?_ _) | (with_reducible refine Kd.C_drewN ?_ _) | (with_reducible refine Kd.C_drew ?_))); (case side2 => exact (Kd.R_reads' HO119.out).2.1); rintro e w' ⟨rfl, ⟨nd, rfl⟩⟩; refine ⟨_, rfl, ?_⟩) | ((with_reducible refine gate_callee (f := 13) rfl ?_); refine goesL_ (some 27) rfl rfl Try.func13 (by kernel_rfl) rfl #[.slice A0 l0.length c0] rfl (by (try simp only [List.map_toArray, List.map_cons, List.map_nil]); first | done | rfl | (simp only [List.length_drop, List.length_take]; rfl)) ?_; (with_reducible refine (laws_toStringS.calls k _ _ l0 t122 _ ?side1 ?side2 A8.out).mono ?_); (case side1 => repeat (first | exact (Kd.C_below HR0.out (by repeat (first | (with_reducible first | exact HB.out | apply below_alloc | apply pw_below_drewN | apply below_drew1) | exact HB.out))) | (with_reducible refine Kd.C_alloc ?_ _) | (with_reducible refine Kd.C_drewN ?_ _) | (with_reducible refine Kd.C_drew ?_))); (case side2 => exact HC0.out); rintro e w13 ⟨v123, rfl, ho0, hb⟩; refine ⟨_, rfl, ?_⟩; have n0_ := Aside0.mk (Kd.R_elder' (by (with_reducible repeat (first | apply Kd.R_alloc | apply Kd.R_drewN | apply Kd.R_drew)); exact HO119.out) (Kd.R_base ho0) hb); have n1_ := Aside0.mk (Kd.R_lower (Kd.R_new' ho0 (Kd.R_lt (by (with_reducible repeat (first | apply Kd.R_alloc | apply Kd.R_drewN | apply Kd.R_drew)); exact HO119.out))) (below_size (by repeat (first | (with_reducible first | exact HB.out | apply below_alloc | apply pw_below_drewN | apply below_drew1) | exact HB.out)))); have n2_ := Aside0.mk (below_step (by repeat (first | (with_reducible first | exact HB.out | apply below_alloc | apply pw_below_drewN | apply below_drew1) | exact HB.out)) hb); clear HO119; clear HB; have HO119 := n0_; have HO124 := n1_; have HB := n2_; clear n0_ n1_ n2_; (try clear hb); (try clear hb2); (try clear hk); (try clear hi); (try clear ho0); obtain ⟨Ao14, co14, eo14⟩ := Kd.R_slice HO124.out; subst eo14) | ((with_reducible refine gate_callee (f := 14) rfl ?_); refine goesL_ (some 31) rfl rfl Try.func14 (by kernel_rfl) rfl #[.slice Ao14 t122.length co14, .string a1] rfl (by (try simp only [List.map_toArray, List.map_cons, List.map_nil]); first | done | rfl | (simp only [List.length_drop, List.length_take]; rfl)) ?_; (with_reducible refine (impl_JoinStrings.calls k _ _ t122 a1 t125 t126 _ ?side1 ?side2 A9.out).mono ?_); (case side1 => repeat (first | exact (Kd.R_reads' HO124.out).2.2 | (with_reducible refine Kd.C_alloc ?_ _) | (with_reducible refine Kd.C_drewN ?_ _) | (with_reducible refine Kd.C_drew ?_))); (case side2 => exact (Kd.R_reads' HO124.out).2.1); rintro e w15 ⟨rfl, hb⟩; refine ⟨_, rfl, ?_⟩; have n0_ := Aside0.mk (Kd.R_below (by (with_reducible repeat (first | apply Kd.R_alloc | apply Kd.R_drewN | apply Kd.R_drew)); exact HO119.out) hb); have n1_ := Aside0.mk (Kd.R_below (by (with_reducible repeat (first | apply Kd.R_alloc | apply Kd.R_drewN | apply Kd.R_drew)); exact HO124.out) hb); have n2_ := Aside0.mk (below_step (by repeat (first | (with_reducible first | exact HB.out | apply below_alloc | apply pw_below_drewN | apply below_drew1) | exact HB.out)) hb); clear HO119; clear HO124; clear HB; have HO119 := n0_; have HO124 := n1_; have HB := n2_; clear n0_ n1_ n2_; (try clear hb); (try clear hb2); (try clear hk); (try clear hi)))
      (try simp only [Act.put, List.setIfInBounds_toArray, List.set_cons_zero, List.set_cons_succ])
      go_cut [41] (fun v41 wc => ∃ (kq : Nat) (x41_9 : Bool), v41 = .bool x41_9 ∧ Aside0 (laws_FnExactJoinStrings.j0 kq l0 t122 x41_9 = some true) ∧ Aside0 (kq ≤ k) ∧ Aside0 (Kd.R Kd.string 9 wc w.heap.size (fun _ => True) (.slice Ao14 t122.length co14) t122) ∧ Aside0 (Below w.heap.size w wc))
      case first =>
        have H := HC10.out
        clear HC10
        by_cases c16 : t125.toList = t120.toList
        · rw [if_pos c16] at H
          have c16b0 : (t125.toList == t120.toList) = true := beq_iff_eq.mpr c16
          have c16b1 : (t125.toList != t120.toList) = false := bne_eq_false_iff_eq.mpr c16
          clear c16
          (first | rw [c16b0] | (simp only [i64_w, i32_w]; rw [c16b0]) | skip)
          have H' := Aside0.mk H
          clear H
          go_wp2
          go_meet
          case rel => exact ⟨_, ((t126 != t121)), (by first | rfl | (simp; done) | (simp [*]; done)), H', ⟨by first | omega | exact Nat.le_refl _⟩, ⟨by (with_reducible repeat (first | apply Kd.R_alloc | apply Kd.R_drewN | apply Kd.R_drew)); exact Kd.R_mono HO124.out (fun _ hk => trivial)⟩, ⟨by repeat (first | (with_reducible first | exact HB.out | apply below_alloc | apply pw_below_drewN | apply below_drew1) | exact HB.out)⟩⟩
        · rw [if_neg c16] at H
          exact absurd H (by cases k <;> simp [laws_FnExactJoinStrings.j0])
      case rest =>
        clear HC10
        try clear c1
        try clear p2
        try clear c3
        try clear c3b0
        try clear c3b1
        try clear c5
        try clear c5b0
        try clear c6
        try clear c11
        try clear c12
        try clear c13
        try clear c14
        try clear c16
        try clear c16b0
        try clear c16b1
        obtain ⟨kq, x41_9, rfl, HA, HJ9, HO_8, HB⟩ := hcut
        cases kq with
        | zero => exact absurd HA.out (by simp [laws_FnExactJoinStrings.j0])
        | succ kj9 =>
          have H := HA.out
          clear HA
          simp only [laws_FnExactJoinStrings.j0] at H
          by_cases c17 : x41_9 = true
          · subst c17
            have H1 : (some false) = some true := by rw [if_pos rfl] at H; exact H
            exact absurd H1 (by simp)
          · replace c17 := Bool.eq_false_iff.mpr c17
            subst c17
            have H1 : ((laws_toStringS.f kj9 l0).bind fun t127 => ((laws_eqStringS.f kj9 t122 t127).bind fun t130 => (if t130 = true then (some true) else (some false)))) = some true := by rw [if_neg (show ¬ (false = true) by decide)] at H; exact H
            clear H
            have H := H1
            clear H1
            replace H := Option.bind_eq_some_iff.mp H
            obtain ⟨t127, A180, H⟩ := H
            replace H : ((laws_eqStringS.f kj9 t122 t127).bind fun t130 => (if t130 = true then (some true) else (some false))) = some true := H
            have A18 := Aside0.mk A180
            clear A180
            replace H := Option.bind_eq_some_iff.mp H
            obtain ⟨t130, A190, H⟩ := H
            replace H : (if t130 = true then (some true) else (some false)) = some true := H
            have A19 := Aside0.mk A190
            clear A190
            by_cases c20 : t130 = true
            · subst c20
              have H1 : (some true) = some true := rfl
              clear H
              have H := H1
              clear H1
              (first | (obtain rfl := Option.some.inj H) | (have hH_ := Option.some.inj H; try simp only [hH_]))
              go_wp2_with (first | ((with_reducible refine gate_callee (f := 13) rfl ?_); refine goesL_ (some 44) rfl rfl Try.func13 (by kernel_rfl) rfl #[.slice A0 l0.length c0] rfl (by (try simp only [List.map_toArray, List.map_cons, List.map_nil]); first | done | rfl | (simp only [List.length_drop, List.length_take]; rfl)) ?_; (with_reducible refine (laws_toStringS.calls kj9 _ _ l0 t127 _ ?side1 ?side2 A18.out).mono ?_); (case side1 => repeat (first | exact (Kd.C_below HR0.out HB.out) | (with_reducible refine Kd.C_alloc ?_ _) | (with_reducible refine Kd.C_drewN ?_ _) | (with_reducible refine Kd.C_drew ?_))); (case side2 => exact HC0.out); rintro e w21 ⟨v128, rfl, ho0, hb⟩; refine ⟨_, rfl, ?_⟩; have n0_ := Aside0.mk (Kd.R_elder' (by (with_reducible repeat (first | apply Kd.R_alloc | apply Kd.R_drewN | apply Kd.R_drew)); exact HO_8.out) (Kd.R_base ho0) hb); have n1_ := Aside0.mk (Kd.R_lower (Kd.R_new' ho0 (Kd.R_lt (by (with_reducible repeat (first | apply Kd.R_alloc | apply Kd.R_drewN | apply Kd.R_drew)); exact HO_8.out))) (below_size (by repeat (first | (with_reducible first | exact HB.out | apply below_alloc | apply pw_below_drewN | apply below_drew1) | exact HB.out)))); have n2_ := Aside0.mk (below_step (by repeat (first | (with_reducible first | exact HB.out | apply below_alloc | apply pw_below_drewN | apply below_drew1) | exact HB.out)) hb); clear HO_8; clear HB; have HO_8 := n0_; have HO129 := n1_; have HB := n2_; clear n0_ n1_ n2_; (try clear hb); (try clear hb2); (try clear hk); (try clear hi); (try clear ho0); obtain ⟨Ao22, co22, eo22⟩ := Kd.R_slice HO129.out; subst eo22) | ((with_reducible refine gate_callee (f := 15) rfl ?_); refine goesL_ (some 45) rfl rfl Try.func15 (by kernel_rfl) rfl #[.slice Ao14 t122.length co14, .slice Ao22 t127.length co22] rfl (by (try simp only [List.map_toArray, List.map_cons, List.map_nil]); first | done | rfl | (simp only [List.length_drop, List.length_take]; rfl)) ?_; (with_reducible refine (laws_eqStringS.calls kj9 _ _ t122 _ _ t127 true _ ?side1 ?side2 ?side3 ?side4 A19.out).mono ?_); (case side1 => repeat (first | exact (Kd.R_reads' HO_8.out).2.2 | (with_reducible refine Kd.C_alloc ?_ _) | (with_reducible refine Kd.C_drewN ?_ _) | (with_reducible refine Kd.C_drew ?_))); (case side2 => exact (Kd.R_reads' HO_8.out).2.1); (case side3 => repeat (first | exact (Kd.R_reads' HO129.out).2.2 | (with_reducible refine Kd.C_alloc ?_ _) | (with_reducible refine Kd.C_drewN ?_ _) | (with_reducible refine Kd.C_drew ?_))); (case side4 => exact (Kd.R_reads' HO129.out).2.1); rintro e w' ⟨rfl, ⟨nd, rfl⟩⟩; refine ⟨_, rfl, ?_⟩))
              go_ret
              exact ⟨by first | rfl | (simp [errW_none, errW_some] <;> rfl) | (simp [*, errW_none, errW_some] <;> rfl), by repeat (first | (with_reducible first | exact HB.out | apply below_alloc | apply pw_below_drewN | apply below_drew1) | exact HB.out)⟩
            · replace c20 := Bool.eq_false_iff.mpr c20
              subst c20
              have H1 : (some false) = some true := by rw [if_neg (show ¬ (false = true) by decide)] at H; exact H
              exact absurd H1 (by simp)
end Go.Proofs.Ytopfambmkmopkaa.Q
namespace Go.Proofs.Ytopfambmkmopkaa.Q
open Go.RowKit Go.Proofs.YtopfambmkmopkaaW.PrintWords Go.Proofs.YtopfambmkmopkaaW.PrintLast
def Ev {α : Type} (F : Nat → Option α) (r : α) : Prop := ∃ K, ∀ k, K ≤ k → F k = some r
theorem Ev.pure {α : Type} (r : α) : Ev (fun _ => some r) r := ⟨0, fun _ _ => rfl⟩
theorem Ev.const {α : Type} {x : Option α} {r : α} (h : x = some r) : Ev (fun _ => x) r := ⟨0, fun _ _ => h⟩
theorem Ev.succ {α : Type} {F : Nat → Option α} {r : α} (h : Ev (fun k => F (k + 1)) r) : Ev F r := by
  obtain ⟨K, h⟩ := h
  refine ⟨K + 1, fun k hk => ?_⟩
  obtain ⟨j, rfl⟩ : ∃ j, k = j + 1 := ⟨k - 1, by omega⟩
  exact h j (by omega)
theorem Ev.bind {α β : Type} {F : Nat → Option α} {G : Nat → α → Option β} {t : α} {r : β} (h : Ev F t) (h2 : Ev (fun k => G k t) r) : Ev (fun k => (F k).bind (G k)) r := by
  obtain ⟨K, h⟩ := h
  obtain ⟨K2, h2⟩ := h2
  refine ⟨max K K2, fun k hk => ?_⟩
  simp only [h k (by omega), Option.bind_some]
  exact h2 k (by omega)
theorem Ev.bindc {α β : Type} {x : Option α} {G : Nat → α → Option β} {t : α} {r : β} (h : x = some t) (h2 : Ev (fun k => G k t) r) : Ev (fun k => x.bind (G k)) r := Ev.bind (Ev.const h) h2
theorem Ev.pos {α : Type} {c : Prop} [Decidable c] {F G : Nat → Option α} {r : α} (hc : c) (h : Ev F r) : Ev (fun k => if c then F k else G k) r := by simpa only [if_pos hc] using h
theorem Ev.neg {α : Type} {c : Prop} [Decidable c] {F G : Nat → Option α} {r : α} (hc : ¬ c) (h : Ev G r) : Ev (fun k => if c then F k else G k) r := by simpa only [if_neg hc] using h
theorem Ev.ex {α : Type} {F : Nat → Option α} {r : α} (h : Ev F r) : ∃ k, F k = some r := by obtain ⟨K, h⟩ := h; exact ⟨K, h K (Nat.le_refl _)⟩
theorem wnext (i : Nat) (h : i ≤ 4611686018427387904) : wrap64 ((i : Int) + 1) = ((i + 1 : Nat) : Int) := by unfold wrap64; omega
end Go.Proofs.Ytopfambmkmopkaa.Q
namespace Go.Proofs.Ytopfambmkmopkaa.Q
open Go.RowKit Go.Proofs.YtopfambmkmopkaaW.PrintWords Go.Proofs.YtopfambmkmopkaaW.PrintLast
theorem rdS (l : List ByteArray) {i : Nat} (h : i < l.length) : rdOf ByteArray.empty l (i : Int) = l[i] := by simp [rdOf, h]
def sizes (l : List ByteArray) : Nat := (l.map ByteArray.size).sum
theorem sizes_cons (x : ByteArray) (l : List ByteArray) : sizes (x :: l) = x.size + sizes l := by simp [sizes]
theorem drop_at (l : List ByteArray) {i : Nat} (h : i < l.length) : l.drop i = l[i] :: l.drop (i + 1) := List.drop_eq_getElem_cons h
theorem wsub {x s : Nat} (hx : x ≤ 1048576) (hs : s ≤ 9223372036854775807) : wrap64 ((x : Int) - (s : Int)) = (x : Int) - (s : Int) := by unfold wrap64; omega
theorem szS_l0 (l : List ByteArray) (hl : l.length ≤ 1048576) (hI : ∀ x ∈ l, x.size ≤ 9223372036854775807) : ∀ (n i x : Nat), i + n = l.length → x ≤ 1048576 → ∃ t, Ev (fun k => laws_szStringS.l0 k l (x : Int) (i : Int)) t ∧ (t < 0 ∨ sizes (l.drop i) ≤ x) := by
  intro n
  induction n with
  | zero =>
    intro i x h hx
    refine ⟨(x : Int), Ev.succ ?_, .inr ?_⟩
    · simp only [laws_szStringS.l0]
      exact Ev.neg (by omega) (Ev.pure _)
    · rw [List.drop_of_length_le (by omega)]; exact Nat.zero_le _
  | succ n ih =>
    intro i x h hx
    have hi : i < l.length := by omega
    have hs := hI _ (List.getElem_mem hi)
    have c1 : (i : Int) < (l.length : Int) := by omega
    have c2 : (0 : Int) ≤ (i : Int) := by omega
    have e2 := wnext i (by omega)
    rw [drop_at l hi, sizes_cons]
    by_cases e : x < l[i].size
    · refine ⟨-1, Ev.succ ?_, .inl (by decide)⟩
      simp only [laws_szStringS.l0]
      rw [rdS l hi, wsub hx hs]
      exact Ev.pos c1 (Ev.pos c2 (Ev.pos (by omega) (Ev.pure _)))
    · obtain ⟨t, h1, h2⟩ := ih (i + 1) (x - l[i].size) (by omega) (by omega)
      refine ⟨t, Ev.succ ?_, h2.imp id (fun q => by omega)⟩
      simp only [laws_szStringS.l0]
      rw [rdS l hi, wsub hx hs, e2]
      rw [show ((x : Int) - (l[i].size : Int)) = ((x - l[i].size : Nat) : Int) by omega]
      exact Ev.pos c1 (Ev.pos c2 (Ev.neg (by omega) h1))
theorem szS_ev (l : List ByteArray) (hl : l.length ≤ 9223372036854775807) (hI : ∀ x ∈ l, x.size ≤ 9223372036854775807) : ∃ t, Ev (fun k => laws_szStringS.f k l 1048576) t ∧ (t < 0 ∨ l.length + sizes l ≤ 1048576) := by
  have e : wrap64 ((1048576 : Int) - (l.length : Int)) = (1048576 : Int) - (l.length : Int) := wsub (x := 1048576) (s := l.length) (by omega) hl
  unfold laws_szStringS.f
  by_cases h : 1048576 < l.length
  · exact ⟨-1, Ev.pos (by rw [e]; omega) (Ev.pure _), .inl (by decide)⟩
  · obtain ⟨t, h1, h2⟩ := szS_l0 l (by omega) hI l.length 0 (1048576 - l.length) (by omega) (by omega)
    refine ⟨t, Ev.neg (by rw [e]; omega) ?_, h2.imp id (fun q => by simp at q; omega)⟩
    rw [e, show ((1048576 : Int) - (l.length : Int)) = ((1048576 - l.length : Nat) : Int) by omega]
    exact h1
theorem toS_l0 (l : List ByteArray) (hl : l.length ≤ 1048576) : ∀ (n i : Nat) (x : List ByteArray), i + n = l.length → x.length = l.length → x.take i = l.take i → Ev (fun k => laws_toStringS.l0 k l x (i : Int)) l := by
  intro n
  induction n with
  | zero =>
    intro i x h hx ht
    refine Ev.succ ?_
    simp only [laws_toStringS.l0]
    rw [List.take_of_length_le (by omega), List.take_of_length_le (by omega)] at ht
    subst ht
    exact Ev.neg (by omega) (Ev.pure _)
  | succ n ih =>
    intro i x h hx ht
    have hi : i < l.length := by omega
    have e2 := wnext i (by omega)
    have hq := ih (i + 1) (x.set i l[i]) (by omega) (by simpa using hx) (by
      rw [List.take_succ_eq_append_getElem (by simp; omega), List.take_succ_eq_append_getElem hi, List.take_set, List.set_eq_of_length_le (by simp; omega), ht]
      simp)
    refine Ev.succ ?_
    simp only [laws_toStringS.l0, Int.toNat_natCast]
    rw [rdS l hi, e2]
    exact Ev.pos (by omega) (Ev.pos (by omega) (Ev.pos (by omega) hq))
theorem toS_ev (l : List ByteArray) (hl : l.length ≤ 1048576) : Ev (fun k => laws_toStringS.f k l) l := by
  unfold laws_toStringS.f
  simp only [Int.toNat_natCast]
  exact Ev.pos (by omega) (Ev.pos (by omega) (toS_l0 l hl l.length 0 _ (by omega) (by simp) (by simp)))
theorem lw_lenJ (b : ByteArray) : (lw b).length = b.size := by unfold lw; rw [Array.length_toList]; rfl
theorem bt_natJ (a : ByteArray) (i : Nat) (h : i < (lw a).length) : bt a (i : Int) = (((lw a)[i]'h).toNat : Int) := by
  have h2 : i < a.size := by rw [← lw_lenJ]; exact h
  have : ((i : Int)).toNat < a.size := by simpa using h2
  rw [← bt_at a (i : Int) this]
  rfl
theorem lw_appJ (a b : ByteArray) : lw (a ++ b) = lw a ++ lw b := by simp [lw]
theorem lw_injJ {a b : ByteArray} (h : lw a = lw b) : a = b := (show pw (lw a) = pw (lw b) by rw [h])
theorem st_l0 (x : ByteArray) (c : UInt8) (hx : x.size ≤ 140737488355328) : ∀ (n i : Nat), i + n = x.size → Ev (fun k => spec_l1Stands.l0 k x (c.toNat : Int) (i : Int)) (((lw x).drop i).contains c) := by
  intro n
  induction n with
  | zero =>
    intro i h
    have := lw_lenJ x
    refine Ev.succ ?_
    simp only [spec_l1Stands.l0]
    rw [List.drop_of_length_le (by omega)]
    exact Ev.neg (by omega) (Ev.pure _)
  | succ n ih =>
    intro i h
    have hl := lw_lenJ x
    have hi : i < (lw x).length := by omega
    have e2 := wnext i (by omega)
    have c1 : (i : Int) < (x.size : Int) := by omega
    have c2 : (0 : Int) ≤ (i : Int) := by omega
    have hq := ih (i + 1) (by omega)
    refine Ev.succ ?_
    simp only [spec_l1Stands.l0]
    rw [bt_natJ x i hi, e2, List.drop_eq_getElem_cons hi, List.contains_cons]
    by_cases e : (lw x)[i] = c
    · rw [e, beq_self_eq_true, Bool.true_or]
      exact Ev.pos c1 (Ev.pos c2 (Ev.pos rfl (Ev.pure _)))
    · have e3 : (c == (lw x)[i]) = false := beq_eq_false_iff_ne.2 (fun h => e h.symm)
      rw [e3, Bool.false_or]
      exact Ev.pos c1 (Ev.pos c2 (Ev.neg (fun h => e (UInt8.toNat_inj.1 (by omega))) hq))
def noC (c : UInt8) (x : ByteArray) : Bool := !(lw x).contains c
def jr (a : ByteArray) : ByteArray → List ByteArray → ByteArray
  | o, [] => o
  | o, x :: r => jr a (o ++ a ++ x) r
theorem jr_lw (a : ByteArray) : ∀ (r : List ByteArray) (o : ByteArray), lw (jr a o r) = lw o ++ Lib.joinTail (lw a) (r.map lw)
  | [], o => by simp [jr, Lib.joinTail]
  | x :: r, o => by
    rw [jr, jr_lw a r, lw_appJ, lw_appJ]
    simp [Lib.joinTail]
theorem join_jr (a x : ByteArray) (r : List ByteArray) : joinW a (x :: r) = jr a x r := by
  refine lw_injJ ?_
  rw [jr_lw]
  show Lib.join (lw x :: r.map lw) (lw a) = _
  rw [Lib.join_cons]
theorem jr_size (a : ByteArray) (ha : a.size = 1) : ∀ (r : List ByteArray) (o : ByteArray), (jr a o r).size = o.size + r.length + sizes r
  | [], o => by simp [jr, sizes]
  | x :: r, o => by
    rw [jr, jr_size a ha r, sizes_cons, ByteArray.size_append, ByteArray.size_append, List.length_cons, ha]
    omega
def okr (c : UInt8) : Nat → List ByteArray → Bool
  | _, [] => true
  | n, x :: r => noC c x && (decide (n + 1 + x.size ≤ 4000) && okr c (n + 1 + x.size) r)
theorem okr_eq (c : UInt8) : ∀ (r : List ByteArray) (n : Nat), n ≤ 4000 → okr c n r = (r.all (noC c) && decide (n + r.length + sizes r ≤ 4000))
  | [], n, h => by simp [okr, sizes, h]
  | x :: r, n, h => by
    rw [okr, List.all_cons, sizes_cons, List.length_cons]
    by_cases e : n + 1 + x.size ≤ 4000
    · rw [okr_eq c r _ e, decide_eq_true e, Bool.true_and, Bool.and_assoc]
      congr 3
      exact propext ⟨fun h => by omega, fun h => by omega⟩
    · rw [decide_eq_false e, decide_eq_false (show ¬ n + (r.length + 1) + (x.size + sizes r) ≤ 4000 by omega)]
      simp
def nil2 : ByteArray × Bool := (⟨#[]⟩, false)
theorem st_ev (x : ByteArray) (c : UInt8) (hx : x.size ≤ 140737488355328) : Ev (fun k => spec_l1Stands.f k x (c.toNat : Int)) (!noC c x) := by
  have h := st_l0 x c hx x.size 0 (by omega)
  unfold spec_l1Stands.f noC
  rw [Bool.not_not]
  exact h
theorem specL (l : List ByteArray) (c : UInt8) (hl : l.length ≤ 1048576) (hI : ∀ x ∈ l, x.size ≤ 1048576) : ∀ (n i : Nat) (o : ByteArray), i + n = l.length → 0 < i → o.size ≤ 4000 →
    Ev (fun k => spec_JoinStrings.l0 k l ⟨#[c]⟩ o (i : Int)) (if okr c o.size (l.drop i) = true then (jr ⟨#[c]⟩ o (l.drop i), true) else nil2) := by
  intro n
  induction n with
  | zero =>
    intro i o h h0 ho
    refine Ev.succ ?_
    simp only [spec_JoinStrings.l0]
    rw [List.drop_of_length_le (by omega)]
    exact Ev.neg (by omega) (Ev.pure _)
  | succ n ih =>
    intro i o h h0 ho
    have hi : i < l.length := by omega
    have hs := hI _ (List.getElem_mem hi)
    have c1 : (i : Int) < (l.length : Int) := by omega
    have c2 : (0 : Int) ≤ (i : Int) := by omega
    have c3 : (i : Int) > 0 := by omega
    have c4 : (0 : Int) < ((⟨#[c]⟩ : ByteArray).size : Int) := by show (0 : Int) < 1; decide
    have c5 : o.size + (⟨#[c]⟩ : ByteArray).size ≤ 9223372036854775807 := by show o.size + 1 ≤ _; omega
    have z1 : (o ++ (⟨#[c]⟩ : ByteArray)).size = o.size + 1 := ByteArray.size_append
    have z2 : (o ++ (⟨#[c]⟩ : ByteArray) ++ l[i]).size = o.size + 1 + l[i].size := by rw [ByteArray.size_append, z1]
    have c6 : (o ++ (⟨#[c]⟩ : ByteArray)).size + l[i].size ≤ 9223372036854775807 := by omega
    have e2 := wnext i (by omega)
    have eb : bt ⟨#[c]⟩ 0 = (c.toNat : Int) := rfl
    have hst := st_ev l[i] c (by omega)
    rw [drop_at l hi]
    refine Ev.succ ?_
    simp only [spec_JoinStrings.l0]
    rw [rdS l hi, eb, e2]
    refine Ev.pos c1 (Ev.pos c2 (Ev.pos c4 (Ev.bind hst ?_)))
    rw [okr, jr]
    cases hn : noC c l[i] with
    | false => exact Ev.pos rfl (Ev.pure _)
    | true =>
      rw [Bool.true_and]
      by_cases e : o.size + 1 + l[i].size ≤ 4000
      · have hq := ih (i + 1) (o ++ ⟨#[c]⟩ ++ l[i]) (by omega) (by omega) (by omega)
        rw [decide_eq_true e, Bool.true_and]
        rw [z2] at hq
        exact Ev.neg (by decide) (Ev.pos c3 (Ev.pos c5 (Ev.pos c6 (Ev.neg (by omega) hq))))
      · rw [decide_eq_false e, Bool.false_and]
        exact Ev.neg (by decide) (Ev.pos c3 (Ev.pos c5 (Ev.pos c6 (Ev.pos (by omega) (Ev.pure _)))))
theorem cont_eq (x : ByteArray) (c : UInt8) : strings_Contains.f x ⟨#[c]⟩ = some (!noC c x) := by
  show some (decide (0 ≤ Lib.indexByte (lw x) c)) = _
  rw [← Lib.contains_iff_indexByte, noC, Bool.not_not]
theorem implL (l : List ByteArray) (c : UInt8) (hl : l.length ≤ 1048576) (hJ : strings_Join.f l ⟨#[c]⟩ = some (joinW ⟨#[c]⟩ l)) : ∀ (n i x : Nat), i + n = l.length → x + sizes (l.drop i) ≤ 3000000 →
    Ev (fun k => impl_JoinStrings.l0 k l ⟨#[c]⟩ (x : Int) l (l.length : Int) (i : Int)) (if ((l.drop i).all (noC c) && decide (x + sizes (l.drop i) ≤ 4000)) = true then (joinW ⟨#[c]⟩ l, true) else nil2) := by
  intro n
  induction n with
  | zero =>
    intro i x h hx
    refine Ev.succ ?_
    simp only [impl_JoinStrings.l0]
    rw [List.drop_of_length_le (by omega)]
    refine Ev.neg (by omega) ?_
    by_cases e : x ≤ 4000
    · rw [decide_eq_true (show x + sizes [] ≤ 4000 from e)]
      exact Ev.neg (by omega) (Ev.bindc hJ (Ev.pure _))
    · rw [decide_eq_false (show ¬ x + sizes [] ≤ 4000 from e)]
      exact Ev.pos (by omega) (Ev.pure _)
  | succ n ih =>
    intro i x h hx
    have hi : i < l.length := by omega
    have c1 : (i : Int) < (l.length : Int) := by omega
    have c2 : (0 : Int) ≤ (i : Int) := by omega
    have e2 := wnext i (by omega)
    rw [drop_at l hi, sizes_cons] at hx ⊢
    have e3 : wrap64 ((x : Int) + (l[i].size : Int)) = ((x + l[i].size : Nat) : Int) := by unfold wrap64; omega
    refine Ev.succ ?_
    simp only [impl_JoinStrings.l0]
    rw [rdS l hi, e2, e3]
    refine Ev.pos c1 (Ev.pos c2 (Ev.pos c1 (Ev.bindc (cont_eq _ _) ?_)))
    rw [List.all_cons]
    cases hn : noC c l[i] with
    | false => exact Ev.pos rfl (Ev.pure _)
    | true =>
      have hq := ih (i + 1) (x + l[i].size) (by omega) (by omega)
      rw [Bool.true_and]
      rw [show x + (l[i].size + sizes (l.drop (i + 1))) = x + l[i].size + sizes (l.drop (i + 1)) by omega]
      exact Ev.neg (by decide) hq
theorem join_ok (l : List ByteArray) (a : ByteArray) (ha : a.size = 1) (hl : l.length + sizes l ≤ 1048576) : strings_Join.f l a = some (joinW a l) := by
  have hz : (joinW a l).size ≤ 140737488355328 := by
    cases l with
    | nil => exact Nat.zero_le _
    | cons x r =>
      rw [join_jr, jr_size a ha]
      rw [List.length_cons, sizes_cons] at hl
      omega
  unfold strings_Join.f
  rw [if_pos]
  unfold okJoin
  rw [decide_eq_true hz, decide_eq_true (show l.length ≤ 140737488355328 by omega)]
  rfl
theorem both_JoinStrings (l : List ByteArray) (a : ByteArray) (hl : l.length + sizes l ≤ 1048576) (hI : ∀ x ∈ l, x.size ≤ 1048576) : ∃ r, Ev (fun k => spec_JoinStrings.f k l a) r ∧ Ev (fun k => impl_JoinStrings.f k l a) r := by
  have hsj : Ev (fun k => spec_JoinStrings.j0 k l a true) nil2 := by
    refine Ev.succ ?_
    simp only [spec_JoinStrings.j0]
    exact Ev.pos (by simp) (Ev.pure _)
  have hij : Ev (fun k => impl_JoinStrings.j0 k l a true) nil2 := by
    refine Ev.succ ?_
    simp only [impl_JoinStrings.j0]
    exact Ev.pos (by simp) (Ev.pure _)
  unfold spec_JoinStrings.f impl_JoinStrings.f
  by_cases ha : a.size = 1
  · obtain ⟨c, rfl⟩ : ∃ c, a = ⟨#[c]⟩ := by
      obtain ⟨⟨q⟩⟩ := a
      match q, ha with
      | [c], _ => exact ⟨c, rfl⟩
    have e1 : (((⟨#[c]⟩ : ByteArray).size : Int) != 1) = false := rfl
    have e2 : ((⟨#[c]⟩ : ByteArray).size : Int) = 1 := rfl
    cases l with
    | nil => exact ⟨nil2, Ev.pos e2 hsj, Ev.pos rfl hij⟩
    | cons x r =>
      have hJ := join_ok (x :: r) ⟨#[c]⟩ rfl hl
      have hlc : (x :: r).length = r.length + 1 := rfl
      have hzc := sizes_cons x r
      have e3 : (((x :: r).length : Int) == 0) = false := beq_eq_false_iff_ne.2 (by omega)
      have hx := hI x (List.mem_cons_self ..)
      have hi := implL (x :: r) c (by omega) hJ (x :: r).length 0 r.length (by omega) (by rw [List.drop_zero]; omega)
      have ew : wrap64 (((x :: r).length : Int) - 1) = (r.length : Int) := by rw [hlc]; unfold wrap64; omega
      have hst := st_ev x c (by omega)
      have ex : (⟨#[]⟩ : ByteArray) ++ x = x := lw_injJ (by rw [lw_appJ]; rfl)
      have hs := specL (x :: r) c (by omega) hI r.length 1 x (by omega) (by omega)
      have hb : (if ((x :: r).all (noC c) && decide (r.length + sizes (x :: r) ≤ 4000)) = true then (joinW ⟨#[c]⟩ (x :: r), true) else nil2) = (if (noC c x && (decide (x.size ≤ 4000) && okr c x.size r)) = true then (jr ⟨#[c]⟩ x r, true) else nil2) := by
        rw [join_jr, List.all_cons, hzc]
        by_cases e : x.size ≤ 4000
        · rw [okr_eq c r _ e, decide_eq_true e, Bool.true_and, Bool.and_assoc]
          rw [show r.length + (x.size + sizes r) = x.size + r.length + sizes r by omega]
        · rw [decide_eq_false e, decide_eq_false (show ¬ r.length + (x.size + sizes r) ≤ 4000 by omega)]
          simp
      rw [List.drop_zero, hb] at hi
      refine ⟨(if (noC c x && (decide (x.size ≤ 4000) && okr c x.size r)) = true then (jr ⟨#[c]⟩ x r, true) else nil2), Ev.pos e2 ?_, Ev.neg (by omega) ?_⟩
      rotate_left
      · rw [e1]
        refine Ev.succ ?_
        simp only [impl_JoinStrings.j0]
        rw [ew]
        exact Ev.neg (by decide) hi
      · rw [e3]
        refine Ev.succ ?_
        simp only [spec_JoinStrings.j0]
        refine Ev.neg (by decide) (Ev.succ ?_)
        simp only [spec_JoinStrings.l0]
        have er : rdOf ByteArray.empty (x :: r) (0 : Int) = x := rfl
        have eb : bt ⟨#[c]⟩ 0 = (c.toNat : Int) := rfl
        have e0 : wrap64 ((0 : Int) + 1) = ((1 : Nat) : Int) := wnext 0 (by omega)
        rw [er, eb, ex, e0]
        have z0 : (⟨#[]⟩ : ByteArray).size + x.size ≤ 9223372036854775807 := by show 0 + x.size ≤ _; omega
        refine Ev.pos (by omega) (Ev.pos (by decide) (Ev.pos (by rw [e2]; decide) (Ev.bind hst ?_)))
        cases hn : noC c x with
        | false => exact Ev.pos rfl (Ev.pure _)
        | true =>
          rw [Bool.true_and]
          by_cases e : x.size ≤ 4000
          · rw [decide_eq_true e, Bool.true_and]
            exact Ev.neg (by decide) (Ev.neg (by decide) (Ev.pos z0 (Ev.neg (by omega) (hs e))))
          · rw [decide_eq_false e, Bool.false_and]
            exact Ev.neg (by decide) (Ev.neg (by decide) (Ev.pos z0 (Ev.pos (by omega) (Ev.pure _))))
  · have e1 : ((a.size : Int) != 1) = true := by
      have : ((a.size : Int) == 1) = false := beq_eq_false_iff_ne.2 (by omega)
      simp [bne, this]
    refine ⟨nil2, Ev.neg (by omega) hsj, ?_⟩
    by_cases h0 : (l.length : Int) = 0
    · exact Ev.pos h0 hij
    · rw [e1]
      exact Ev.neg h0 hij
theorem eqS_same (l : List ByteArray) (hl : l.length ≤ 1048576) : ∀ (n i : Nat), i + n = l.length → Ev (fun k => laws_eqStringS.l0 k l l (i : Int)) true := by
  intro n
  induction n with
  | zero =>
    intro i h
    refine Ev.succ ?_
    simp only [laws_eqStringS.l0]
    exact Ev.neg (by omega) (Ev.pure _)
  | succ n ih =>
    intro i h
    have e2 := wnext i (by omega)
    have hq := ih (i + 1) (by omega)
    have c1 : (i : Int) < (l.length : Int) := by omega
    refine Ev.succ ?_
    simp only [laws_eqStringS.l0]
    rw [e2]
    exact Ev.pos c1 (Ev.pos (by omega) (Ev.pos c1 (Ev.pos trivial hq)))
theorem mem_sizes : ∀ (l : List ByteArray) (x : ByteArray), x ∈ l → x.size ≤ sizes l
  | [], _, h => by cases h
  | y :: l, x, h => by
    rw [sizes_cons]
    rcases List.mem_cons.1 h with rfl | h
    · omega
    · have := mem_sizes l x h; omega
end Go.Proofs.Ytopfambmkmopkaa.Q
namespace Go.Proofs.Ytopfambmkmopkaa.Pure
open Go.Proofs.Ytopfambmkmopkaa.Q Go.RowKit Go.Proofs.YtopfambmkmopkaaW.PrintWords Go.Proofs.YtopfambmkmopkaaW.PrintLast
theorem FnExactJoinStrings (l0 : List ByteArray) (a1 : ByteArray) (hl_l0 : l0.length ≤ maxLen) (hI_l0 : ∀ x ∈ l0, x.size ≤ maxLen) (hw_a1 : a1.size ≤ 140737488351232) : ∃ k, laws_FnExactJoinStrings.f k l0 a1 = some true := by
  refine Q.Ev.ex ?_
  unfold laws_FnExactJoinStrings.f
  by_cases hs : (a1.size : Int) > 1048576
  · exact Q.Ev.pos hs (Q.Ev.pure _)
  · refine Q.Ev.neg hs ?_
    obtain ⟨t, h1, h2⟩ := szS_ev l0 (by unfold maxLen at hl_l0; omega) (fun x hx => by have := hI_l0 x hx; unfold maxLen at this; omega)
    refine Q.Ev.bind h1 ?_
    by_cases ht : t < 0
    · exact Q.Ev.pos ht (Q.Ev.pure _)
    · refine Q.Ev.neg ht ?_
      have hz : l0.length + sizes l0 ≤ 1048576 := h2.resolve_left ht
      have hT := toS_ev l0 (by omega)
      obtain ⟨r, q1, q2⟩ := both_JoinStrings l0 a1 hz (fun x hx => by have := mem_sizes l0 x hx; omega)
      refine Q.Ev.bind hT (Q.Ev.bind q1 (Q.Ev.bind hT (Q.Ev.bind q2 (Q.Ev.pos rfl ?_))))
      have hb : (r.2 != r.2) = false := by cases r.2 <;> rfl
      rw [hb]
      refine Q.Ev.succ ?_
      simp only [laws_FnExactJoinStrings.j0]
      refine Q.Ev.neg (by decide) (Q.Ev.bind hT (Q.Ev.bind (t := true) ?_ (Q.Ev.pos rfl (Q.Ev.pure _))))
      unfold laws_eqStringS.f
      exact Q.Ev.pos rfl (eqS_same l0 (by omega) l0.length 0 (by omega))
end Go.Proofs.Ytopfambmkmopkaa.Pure
namespace Go.Proofs.Ytopfambmkmopkaa.Q
open Go.ChangeShapes Go.WideShapes Go.Deep Go.RowKit Go.Proofs.YtopfambmkmopkaaW.PrintWords Go.Proofs.YtopfambmkmopkaaW.PrintLast Go.Proofs.YtopfambmkmopkaaW.PrintMore
set_option maxRecDepth 100000 in
theorem open_strs {H : Type} {enc : TypeId × Value → H} {w : World} {base b0 : Nat} {spare : Nat → Bool} {held : Bool} {r : Reach} {v : Value} {d : DataW H} {p : List MemPlace} (hv : Value.okWide Try.prog w r b0 27 v) (h : DataW.Trod enc Try.prog w base spare held 27 v d p) :
    ∃ (A : Option Addr) (c : Nat) (l : List ByteArray), v = .slice A l.length c ∧ Kd.C Kd.string w A l.length l ∧ l.length ≤ c ∧ l.length ≤ maxLen ∧ ∀ x ∈ l, x.size ≤ maxLen := by
  obtain ⟨a0, len, cap, rfl⟩ := okWide_slice Try.underlying27 hv
  obtain ⟨fuel, hf⟩ := h
  rcases open_strings Try.underlying27 Try.underlying9 (by kernel_rfl) hf with ⟨e, _⟩ | ⟨a, len', cap', ss, e, _, hl, hm, hss, _, hc, hz⟩
  · injection e with e
    injection e with e1 e2 e3
    subst e1; subst e2; subst e3
    exact ⟨none, 0, [], rfl, ⟨rfl, by decide, fun h => absurd h (by decide)⟩, Nat.le_refl _, Nat.zero_le _, fun x hx => by cases hx⟩
  · injection e with e
    injection e with e1 e2 e3
    subst e1; subst e2; subst e3
    have hls : len ≤ ss.length := by rw [hss]; split <;> omega
    have hlt : (ss.take len).length = len := by rw [List.length_take]; omega
    refine ⟨some a, cap, ss.take len, by rw [hlt], ?_, by rw [hlt]; exact hl, by rw [hlt]; omega, fun x hx => hz x (List.mem_of_mem_take hx)⟩
    rw [hlt]
    refine ⟨hlt, by unfold maxLen at hm; omega, fun _ => ⟨a, rfl, fun j p hj => ?_⟩⟩
    obtain ⟨hjl, rfl⟩ := List.getElem?_eq_some_iff.1 hj
    rw [hlt] at hjl
    have h1 := hc j (by omega)
    have h2 : ss.getD j ByteArray.empty = (ss.take len)[j] := by
      rw [List.getElem_take, List.getD_eq_getElem?_getD, List.getElem?_eq_getElem (by omega)]
      rfl
    rw [h2] at h1
    refine ⟨[.string (ss.take len)[j]], rfl, rfl, fun i u hu => ?_⟩
    cases i with
    | zero =>
      injection hu with hu
      subst hu
      have e1 : j * Kd.string.sz + 0 = j := by show j * 1 + 0 = j; omega
      rw [e1]
      exact h1
    | succ i => cases hu
end Go.Proofs.Ytopfambmkmopkaa.Q
namespace Go.Proofs.Ytopfambmkmopkaa.fnExactJoinStrings
open Go.ChangeShapes Go.WideShapes Go.ChangeAt Go.RowKit
open Go.ChangeMaps (open_string shut_string)
set_option linter.unusedVariables false
theorem own : ownKnob Try.prog.godebug = none := by kernel_rfl
theorem laidOut : laidOutB Try.prog = true := by kernel_rfl
set_option maxRecDepth 100000 in
theorem lifted (os : Os) (started : os.Started) (H : Type) (enc : TypeId × Value → H) :
    ReturnsInHanded {} Try.checked os 6 .any (Rows.fnExactJoinStringsSpec.pre6 enc Try.prog Try.f6 Rows.fnExactJoinStringsRow.domain false) (Rows.fnExactJoinStringsSpec.post enc Try.prog Try.f6 false true false false) := by
  refine returnsInHanded_of_change_sized (C := Try.checked) own started (by kernel_rfl) Try.func6
    (ChangeSpec.witness6 (enc := enc) (C := Try.checked) false ⟨#[], #[.slice none 0 0, .string ByteArray.empty], []⟩ 8 (by kernel_rfl) (by kernel_rfl) (by kernel_rfl) (by kernel_rfl)) ?_
  intro W base args ds gs before hval0 hW hcnd hsz0 _
  have hsz : (DataW.weightsEach Try.prog (Try.f6.params.toList ++ Rows.fnExactJoinStringsSpec.plain.varTypes Try.prog) (ds ++ gs)).all (· ≤ reachBytes) = true := hsz0
  have hval : ∀ (j : Nat) t v, Try.f6.params[j]? = some t → args[j]? = some v → Value.okWide Try.prog W .any base t v := hval0
  have hW' := hW
  obtain ⟨p, q, hA0, hV, rfl, hfz, hnd⟩ := hW
  have hA : DataW.TrodAll enc Try.prog W 0 (fun _ => true) true Try.f6.params.toList args.toList ds p := hA0
  rw [Try.params6] at hA hval hsz
  obtain ⟨v0, vs0, d0, ds0, p0, q0, hargs, rfl, rfl, h0, r0⟩ := trodAll_cons hA
  obtain ⟨v1, vs1, d1, ds1, p1, q1, rfl, rfl, rfl, h1, r1⟩ := trodAll_cons r0
  obtain ⟨rfl, rfl, rfl⟩ := trodAll_nil r1
  obtain rfl : args = #[v0, v1] := by cases args; simp_all
  obtain ⟨rfl, rfl⟩ := trodVars_none hV
  have k0 := h0
  have lt0 : ∀ x ∈ p0, x.block < W.heap.size := by obtain ⟨m, hm⟩ := k0; exact DataW.trod_lt m _ _ _ hm
  obtain ⟨A0, c0, l0, rfl, hC0, hc0, hl0, hI0⟩ := Q.open_strs (hval 0 27 v0 rfl rfl) h0
  obtain ⟨a1, rfl, rfl, rfl, y1⟩ := open_string Try.underlying9 (hval 1 9 v1 rfl rfl) h1
  have w1 : a1.size ≤ 140737488351232 := by
    have z := sized_string hsz (j := 1) (t := 9) rfl rfl
    rw [Array.length_toList] at z
    exact z
  clear hA0 hval0 hsz0 hsz
  obtain ⟨k, hk⟩ := Pure.FnExactJoinStrings l0 a1 hl0 hI0 w1
  refine (Q.laws_FnExactJoinStrings.calls k A0 c0 l0 a1 true W hC0 hc0 hk).mono fun e W' ⟨he, bel0⟩ => ?_
  have bel : Below W.heap.size W W' := bel0
  subst he
  exact ⟨_, rfl, _, _, _, [], _, [], hW', trodAll_mk1 (shut_bool Try.underlying4 _), (trodAll_cons_mk (Below.trod laidOut (by kernel_rfl) (of_decide_eq_true (by kernel_rfl)) k0 bel lt0) (trodAll_cons_mk (shut_string Try.underlying9 y1) trodAll_mk0)), rfl, bel.frame _, fun h => by cases h⟩
theorem over : Rows.fnExactJoinStringsRow.holds Try.pinned (OpenSpec.ofChange Rows.fnExactJoinStringsSpec) :=
  OpenClaim.holds_of_wide 6 Try.f6 rfl rfl rfl rfl rfl rfl rfl ⟨rfl, rfl, rfl, rfl, rfl⟩ rfl rfl rfl rfl rfl (by kernel_rfl) Try.func6 (by kernel_rfl)
    (of_decide_eq_true (by kernel_rfl)) (by unfold Func.isWrapper; first | (rw [if_pos (by decide +kernel)]; kernel_rfl) | (rw [if_neg (by decide +kernel)]; exact ⟨rfl, rfl⟩))
    (fun os started H enc _ => lifted os started H enc)
theorem proved : Rows.FnExactJoinStringsSaid := over
end Go.Proofs.Ytopfambmkmopkaa.fnExactJoinStrings
namespace Go.Proofs.Ytopfambmkmopkaa
theorem fnExactJoinStrings_holds : Rows.FnExactJoinStringsSaid := fnExactJoinStrings.proved
end Go.Proofs.Ytopfambmkmopkaa
