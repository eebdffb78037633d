/- The law FnExactVerifyChecksum: for every input the call answers true and leaves its arguments as they were. -/
import Derived.Test.YtopfambmkmopkaaDoorJ0
import Derived.Test.YtopfambmkmopkaaDoorJ1
import Derived.Test.YtopfambmkmopkaaDoorJ2
import Derived.Test.YtopfambmkmopkaaDoorJ3
import Derived.Test.YtopfambmkmopkaaDoorJ4
import Derived.Lib.ItoaLen
import Derived.Lib.ItoaMem
import Derived.Test.YtopfambmkmopkaaDoorProg
import Derived.Below
import Derived.Deep.Draws
import Derived.Deep.AppendLies
import Derived.Maps.AppendAt
import Derived.OwnWalk
import Derived.Laws.BytesArg
import Derived.Laws.MakeOwn
import Derived.Laws.OwnMore
import Derived.Deep.OwnRows
import Derived.Tactics
import Derived.Lib.ConvBytes
import Derived.Laws.Slices
import Derived.WalkKit
import Derived.KernelRfl
import Derived.RowKit3
import Derived.Deep.LoopGhost
import Derived.Deep.QuietTactic
import Derived.BigQuiet
import Derived.WideLaws
import Derived.Deep.DeepCutAuto
import Derived.Deep.CutBlock
import Derived.Deep.RegionHeld3
import Derived.Laws.Rows
import Derived.Lib.AppendStr
import Derived.ArgAppend
import Derived.Laws.IdiomCopy
import Derived.OrdersHeld
import Derived.Laws.BitsLemmas
import Derived.RowKit
import Derived.Shelf.Strconv.Itoa3
import Derived.Lib.AppendIntMem
import Derived.Lib.ItoaNum
import Derived.Lib.LaidTab
import Derived.Lib.SmallJoins
import Derived.Ground.NamesProg
import Derived.Ground.SlgfProg
import Derived.Lib.SplitLaws
import Derived.Shelf.Strings.SplitShaped
import Derived.Lib.OwnBridge
import Derived.Sort.OwnSorted
import Derived.Sort.Grow
import Derived.Shelf.Strings.Search3
import Derived.Shelf.Strings.Shaped
import Derived.WalkSmall
import Derived.Lib.IndexLaws
import Derived.Test.YtopfambmkmopkaaDoorRows
import Derived.Test.YtopfambmkmopkaaDoorTie
import Derived.Test.YtopfambmkmopkaaDoorCards
import Derived.ProofKit
import Derived.OpenShut
import Derived.ShutString
import Derived.ChangeOld
import Derived.SizedLaws
import Derived.Carry
import Derived.LaidMore
import Derived.Lay
import Derived.SevenTiedAt
import Derived.Stop.Joined
import Derived.Shelf.Vars
import Derived.Stop.LaidErr
set_option linter.unusedVariables false
set_option linter.unusedSimpArgs false
namespace Go.Proofs.YtopfambmkmopkaaDoor.Q
open Go.RowKit Go.Proofs.YtopfambmkmopkaaDoorW.PrintWords Go.Proofs.YtopfambmkmopkaaDoorW.PrintLast
theorem pieces_head (b : UInt8) : ∀ l : List UInt8, ∃ q qs, pieces b l = q :: qs ∧ b ∉ q ∧ ((q = l ∧ b ∉ l) ∨ ∃ r, l = q ++ b :: r)
  | [] => ⟨[], [], rfl, by simp, .inl ⟨rfl, by simp⟩⟩
  | c :: r => by
    rw [pieces]
    by_cases e : c = b
    · rw [if_pos e]
      exact ⟨[], _, rfl, by simp, .inr ⟨r, by rw [e]; rfl⟩⟩
    · rw [if_neg e]
      obtain ⟨q, qs, h1, h2, h3⟩ := pieces_head b r
      rw [h1]
      refine ⟨c :: q, qs, rfl, fun h => (List.mem_cons.1 h).elim (fun h => e h.symm) h2, ?_⟩
      rcases h3 with ⟨rfl, h3⟩ | ⟨t, rfl⟩
      · exact .inl ⟨rfl, fun h => (List.mem_cons.1 h).elim (fun h => e h.symm) h3⟩
      · exact .inr ⟨t, rfl⟩
end Go.Proofs.YtopfambmkmopkaaDoor.Q
namespace Go.Proofs.YtopfambmkmopkaaDoor.Q
open Go.RowKit Go.Proofs.YtopfambmkmopkaaDoorW.PrintWords Go.Proofs.YtopfambmkmopkaaDoorW.PrintLast Go.Proofs.YtopfambmkmopkaaDoorW.PrintMore
attribute [local go_sem] run_field_119 run_field_120 isSome_setCell max2_int min2_int max_two min_two max_three min_three max_four min_four   -- for this text's walks alone
set_option linter.unusedVariables false
set_option linter.unusedSimpArgs false
def spec_VerifyChecksum.f (k : Nat) (a0 : ByteArray) : Option (ByteArray × Bool) := if (a0.size : Int) > 4000 then (some ((⟨#[]⟩ : ByteArray), false)) else ((spec_l1Split.f k a0 35).bind fun t173 => (if 0 < (t173.length : Int) then ((spec_l1Seal.f k (rdOf ByteArray.empty t173 0)).bind fun t177 => (if t177.toList = a0.toList then (some (rdOf ByteArray.empty t173 0, true)) else (some ((⟨#[]⟩ : ByteArray), false)))) else (none)))
set_option maxHeartbeats 8000000 in
set_option maxRecDepth 100000 in
theorem spec_VerifyChecksum.calls (k : Nat) (a0 : ByteArray) (r1 : ByteArray) (r2 : Bool) (w : World) (h : spec_VerifyChecksum.f k a0 = some (r1, r2)) :
    Calls Tryd.prog 30 #[.string a0] w fun e w' => e = .returned (.tuple #[.string r1, .bool r2]) ∧ Below w.heap.size w w' := by
  have HB := Aside0.mk (Below.refl w.heap.size w)
  have H : (if (a0.size : Int) > 4000 then (some ((⟨#[]⟩ : ByteArray), false)) else ((spec_l1Split.f k a0 35).bind fun t173 => (if 0 < (t173.length : Int) then ((spec_l1Seal.f k (rdOf ByteArray.empty t173 0)).bind fun t177 => (if t177.toList = a0.toList then (some (rdOf ByteArray.empty t173 0, true)) else (some ((⟨#[]⟩ : ByteArray), false)))) else (none)))) = some (r1, r2) := h
  clear h
  by_cases c2 : (a0.size : Int) > 4000
  · rw [if_pos c2] at H
    have c2b0 : decide (4000 < (a0.size : Int)) = true := decide_eq_true c2
    have c2b1 : decide (4000 < a0.size) = true := decide_eq_true (by omega)
    clear c2
    simp only [Option.some.injEq, Prod.mk.injEq] at H
    obtain ⟨rfl, rfl⟩ := H
    go_enter Tryd.func30, Tryd.ntmps30
    go_wp2
    go_ret2
    exact ⟨by first | rfl | (simp [errW_none, errW_some] <;> rfl) | (simp [*, errW_none, errW_some] <;> rfl), by repeat (first | (with_reducible first | exact HB.out | apply below_alloc | apply pw_below_drewN | apply below_drew1) | exact HB.out)⟩
  · rw [if_neg c2] at H
    have c2b0 : decide (4000 < (a0.size : Int)) = false := decide_eq_false c2
    have c2b1 : decide (4000 < a0.size) = false := decide_eq_false (by omega)
    clear c2
    replace H := Option.bind_eq_some_iff.mp H
    obtain ⟨t173, A30, H⟩ := H
    replace H : (if 0 < (t173.length : Int) then ((spec_l1Seal.f k (rdOf ByteArray.empty t173 0)).bind fun t177 => (if t177.toList = a0.toList then (some (rdOf ByteArray.empty t173 0, true)) else (some ((⟨#[]⟩ : ByteArray), false)))) else (none)) = some (r1, r2) := H
    have A3 := Aside0.mk A30
    clear A30
    by_cases c4 : 0 < (t173.length : Int)
    · rw [if_pos c4] at H
      have c4b0 : decide (0 < (t173.length : Int)) = true := decide_eq_true c4
      have c4b1 : decide (0 < t173.length) = true := decide_eq_true (by omega)
      clear c4
      replace H := Option.bind_eq_some_iff.mp H
      obtain ⟨t177, A50, H⟩ := H
      replace H : (if t177.toList = a0.toList then (some (rdOf ByteArray.empty t173 0, true)) else (some ((⟨#[]⟩ : ByteArray), false))) = some (r1, r2) := H
      have A5 := Aside0.mk A50
      clear A50
      by_cases c6 : t177.toList = a0.toList
      · rw [if_pos c6] at H
        have c6b0 : (t177.toList == a0.toList) = true := beq_iff_eq.mpr c6
        have c6b1 : (t177.toList != a0.toList) = false := bne_eq_false_iff_eq.mpr c6
        clear c6
        simp only [Option.some.injEq, Prod.mk.injEq] at H
        obtain ⟨rfl, rfl⟩ := H
        go_enter Tryd.func30, Tryd.ntmps30
        go_wp2_with (first | ((with_reducible refine gate_callee (f := 48) rfl ?_); refine goesL_ (some 9) rfl rfl Tryd.func48 (by kernel_rfl) rfl #[.string a0, .int .u8 35] rfl (by (try simp only [List.map_toArray, List.map_cons, List.map_nil]); first | done | rfl | (simp only [List.length_drop, List.length_take]; rfl)) ?_; (with_reducible refine (spec_l1Split.calls k a0 35 t173 _ A3.out).mono ?_); rintro e w7 ⟨v174, rfl, ho0, hb⟩; refine ⟨_, rfl, ?_⟩; have n0_ := Aside0.mk (Kd.R_lower ho0 (below_size (by repeat (first | (with_reducible first | exact HB.out | apply below_alloc | apply pw_below_drewN | apply below_drew1) | exact HB.out)))); have n1_ := Aside0.mk (below_step (by repeat (first | (with_reducible first | exact HB.out | apply below_alloc | apply pw_below_drewN | apply below_drew1) | exact HB.out)) hb); clear HB; have HO175 := n0_; have HB := n1_; clear n0_ n1_; (try clear hb); (try clear hb2); (try clear hk); (try clear hi); (try clear ho0); obtain ⟨Ao8, co8, eo8⟩ := Kd.R_slice HO175.out; subst eo8; have p176 : 0 ≤ (0 : Int) := (by omega); have q176 : 0 < (t173.length : Int) := of_decide_eq_true (by first | (with_reducible assumption) | assumption); obtain ⟨ad176, e176, hx176_0⟩ := Kd.at_string (Kd.R_reads' HO175.out).2.2 0 p176 q176; cases e176; have qi176 : (0 < t173.length) = True := eq_true (by omega); (try rw [show ((0 : Int)).toNat = 0 from rfl] at hx176_0); (try rw [Addr.add_zero'] at hx176_0); replace p176 := eq_true p176; replace q176 := eq_true q176) | ((with_reducible refine gate_callee (f := 57) rfl ?_); refine goesL_ (some 13) rfl rfl Tryd.func57 (by kernel_rfl) rfl #[.string (rdOf ByteArray.empty t173 0)] rfl (by (try simp only [List.map_toArray, List.map_cons, List.map_nil]); first | done | rfl | (simp only [List.length_drop, List.length_take]; rfl)) ?_; (with_reducible refine (spec_l1Seal.calls k (rdOf ByteArray.empty t173 0) t177 _ A5.out).mono ?_); rintro e w9 ⟨rfl, hb⟩; refine ⟨_, rfl, ?_⟩; have n0_ := Aside0.mk (Kd.R_below (by (with_reducible repeat (first | apply Kd.R_alloc | apply Kd.R_drewN | apply Kd.R_drew)); exact HO175.out) hb); have n1_ := Aside0.mk (below_step (by repeat (first | (with_reducible first | exact HB.out | apply below_alloc | apply pw_below_drewN | apply below_drew1) | exact HB.out)) hb); clear HO175; clear HB; have HO175 := n0_; have HB := n1_; clear n0_ n1_; (try clear hb); (try clear hb2); (try clear hk); (try clear hi)))
        go_ret2
        exact ⟨by first | rfl | (simp [errW_none, errW_some] <;> rfl) | (simp [*, errW_none, errW_some] <;> rfl), by repeat (first | (with_reducible first | exact HB.out | apply below_alloc | apply pw_below_drewN | apply below_drew1) | exact HB.out)⟩
      · rw [if_neg c6] at H
        have c6b0 : (t177.toList == a0.toList) = false := beq_eq_false_iff_ne.mpr c6
        have c6b1 : (t177.toList != a0.toList) = true := bne_iff_ne.mpr c6
        simp only [Option.some.injEq, Prod.mk.injEq] at H
        obtain ⟨rfl, rfl⟩ := H
        go_enter Tryd.func30, Tryd.ntmps30
        go_wp2_with (first | ((with_reducible refine gate_callee (f := 48) rfl ?_); refine goesL_ (some 9) rfl rfl Tryd.func48 (by kernel_rfl) rfl #[.string a0, .int .u8 35] rfl (by (try simp only [List.map_toArray, List.map_cons, List.map_nil]); first | done | rfl | (simp only [List.length_drop, List.length_take]; rfl)) ?_; (with_reducible refine (spec_l1Split.calls k a0 35 t173 _ A3.out).mono ?_); rintro e w10 ⟨v174, rfl, ho0, hb⟩; refine ⟨_, rfl, ?_⟩; have n0_ := Aside0.mk (Kd.R_lower ho0 (below_size (by repeat (first | (with_reducible first | exact HB.out | apply below_alloc | apply pw_below_drewN | apply below_drew1) | exact HB.out)))); have n1_ := Aside0.mk (below_step (by repeat (first | (with_reducible first | exact HB.out | apply below_alloc | apply pw_below_drewN | apply below_drew1) | exact HB.out)) hb); clear HB; have HO175 := n0_; have HB := n1_; clear n0_ n1_; (try clear hb); (try clear hb2); (try clear hk); (try clear hi); (try clear ho0); obtain ⟨Ao11, co11, eo11⟩ := Kd.R_slice HO175.out; subst eo11; have p176 : 0 ≤ (0 : Int) := (by omega); have q176 : 0 < (t173.length : Int) := of_decide_eq_true (by first | (with_reducible assumption) | assumption); obtain ⟨ad176, e176, hx176_0⟩ := Kd.at_string (Kd.R_reads' HO175.out).2.2 0 p176 q176; cases e176; have qi176 : (0 < t173.length) = True := eq_true (by omega); (try rw [show ((0 : Int)).toNat = 0 from rfl] at hx176_0); (try rw [Addr.add_zero'] at hx176_0); replace p176 := eq_true p176; replace q176 := eq_true q176) | ((with_reducible refine gate_callee (f := 57) rfl ?_); refine goesL_ (some 13) rfl rfl Tryd.func57 (by kernel_rfl) rfl #[.string (rdOf ByteArray.empty t173 0)] rfl (by (try simp only [List.map_toArray, List.map_cons, List.map_nil]); first | done | rfl | (simp only [List.length_drop, List.length_take]; rfl)) ?_; (with_reducible refine (spec_l1Seal.calls k (rdOf ByteArray.empty t173 0) t177 _ A5.out).mono ?_); rintro e w12 ⟨rfl, hb⟩; refine ⟨_, rfl, ?_⟩; have n0_ := Aside0.mk (Kd.R_below (by (with_reducible repeat (first | apply Kd.R_alloc | apply Kd.R_drewN | apply Kd.R_drew)); exact HO175.out) hb); have n1_ := Aside0.mk (below_step (by repeat (first | (with_reducible first | exact HB.out | apply below_alloc | apply pw_below_drewN | apply below_drew1) | exact HB.out)) hb); clear HO175; clear HB; have HO175 := n0_; have HB := n1_; clear n0_ n1_; (try clear hb); (try clear hb2); (try clear hk); (try clear hi)))
        go_ret2
        exact ⟨by first | rfl | (simp [errW_none, errW_some] <;> rfl) | (simp [*, errW_none, errW_some] <;> rfl), by repeat (first | (with_reducible first | exact HB.out | apply below_alloc | apply pw_below_drewN | apply below_drew1) | exact HB.out)⟩
    · rw [if_neg c4] at H
      exact absurd H (by simp)
end Go.Proofs.YtopfambmkmopkaaDoor.Q
namespace Go.Proofs
open Go.Shelf
def Tryd.lCut_ren : Go.Shelf.Ren := ⟨fun | 145 => 60 | 220 => 74 | 219 => 85 | 217 => 107 | 225 => 108 | 224 => 109 | 267 => 110 | 266 => 125 | 314 => 126 | n => n, fun | 9 => 9 | 4 => 4 | 59 => 53 | 3 => 3 | 5 => 5 | 46 => 77 | 146 => 115 | 51 => 110 | n => n, fun | 1 => 0 | n => n⟩
theorem Tryd.lCut : Go.Proofs.LaysM.n145 Tryd.prog Tryd.lCut_ren := {
  mixed := by kernel_rfl
  f145 := Tryd.func60.trans (congrArg some (by kernel_rfl))
  f217 := Tryd.func107.trans (congrArg some (by kernel_rfl))
  f219 := Tryd.func85.trans (congrArg some (by kernel_rfl))
  f220 := Tryd.func74.trans (congrArg some (by kernel_rfl))
  f224 := Tryd.func109.trans (congrArg some (by kernel_rfl))
  f225 := Tryd.func108.trans (congrArg some (by kernel_rfl))
  f266 := Tryd.func125.trans (congrArg some (by kernel_rfl))
  f267 := Tryd.func110.trans (congrArg some (by kernel_rfl))
  f314 := Tryd.func126.trans (congrArg some (by kernel_rfl))
  t3 := Tryd.underlying3
  a3 := Tryd.isAgg3
  z3 := Tryd.sizeOf3
  v3 := Tryd.zeroValue3
  t4 := Tryd.underlying4
  a4 := Tryd.isAgg4
  z4 := Tryd.sizeOf4
  v4 := Tryd.zeroValue4
  t5 := Tryd.underlying5
  a5 := Tryd.isAgg5
  z5 := Tryd.sizeOf5
  v5 := Tryd.zeroValue5
  t9 := Tryd.underlying9
  a9 := Tryd.isAgg9
  z9 := Tryd.sizeOf9
  v9 := Tryd.zeroValue9
  t46 := Tryd.underlying77
  a46 := Tryd.isAgg77
  z46 := Tryd.sizeOf77
  v46 := Tryd.zeroValue77
  t51 := Tryd.underlying110
  a51 := Tryd.isAgg110
  z51 := Tryd.sizeOf110
  v51 := Tryd.zeroValue110
  t59 := Tryd.underlying53
  a59 := Tryd.isAgg53
  z59 := Tryd.sizeOf53
  v59 := Tryd.zeroValue53
  t146 := Tryd.underlying115
  a146 := Tryd.isAgg115
  z146 := Tryd.sizeOf115
  v146 := Tryd.zeroValue115
  g1 := by kernel_rfl
  i3 := by kernel_rfl
  i4 := by kernel_rfl
  i5 := by kernel_rfl
  i9 := by kernel_rfl
  i46 := by kernel_rfl
  i51 := by kernel_rfl
  i59 := by kernel_rfl
  i146 := by kernel_rfl
  m1 := by kernel_rfl
  s1_3 := fun w h => Go.Proofs.cell_of_shapedOpen_int (zero := #[.int .i64 0]) (t := 3) h (of_decide_eq_true (by kernel_rfl)) (by kernel_rfl) rfl (by kernel_rfl) (by kernel_rfl) Tryd.underlying3 }
end Go.Proofs
namespace Go.Proofs.YtopfambmkmopkaaDoor.Q
open Go.RowKit Go.Shelf Go.Proofs.YtopfambmkmopkaaDoorW.PrintWords Go.Proofs.YtopfambmkmopkaaDoorW.PrintLast Go.Proofs.YtopfambmkmopkaaDoorW.PrintMore
def cutOf (a b : ByteArray) : List UInt8 × List UInt8 × Bool := Lib.cut a.data.toList b.data.toList
def strings_Cut.f (a0 a1 : ByteArray) : Option (ByteArray × ByteArray × Bool) := if a0.size < 4294967281 then some (⟨(cutOf a0 a1).1.toArray⟩, ⟨(cutOf a0 a1).2.1.toArray⟩, (cutOf a0 a1).2.2) else none
theorem strings_Cut.calls (a0 a1 : ByteArray) (r1 r2 : ByteArray) (r3 : Bool) (w : World) (h : strings_Cut.f a0 a1 = some (r1, r2, r3)) (hG_MaxIs : MaxIs w) :
    Calls Tryd.prog 60 #[.string a0, .string a1] w fun e w' => e = .returned (.tuple #[.string r1, .string r2, .bool r3]) ∧ Below w.heap.size w w' := by
  unfold strings_Cut.f at h
  split at h
  case isFalse => cases h
  rename_i hn
  injection h with h
  injection h with h1 h2
  injection h2 with h2 h3
  subst h1; subst h2; subst h3
  obtain ⟨m, hm⟩ := hG_MaxIs
  refine (Any.strings_Cut { Tryd.lCut with } a0 a1 m w hn hm).mono ?_
  rintro e w' ⟨rfl, n, rfl⟩
  exact ⟨rfl, below_drewN (Below.refl _ _) n⟩
end Go.Proofs.YtopfambmkmopkaaDoor.Q
namespace Go.Proofs.YtopfambmkmopkaaDoor.Q
open Go.RowKit Go.Proofs.YtopfambmkmopkaaDoorW.PrintWords Go.Proofs.YtopfambmkmopkaaDoorW.PrintLast Go.Proofs.YtopfambmkmopkaaDoorW.PrintMore
attribute [local go_sem] run_field_119 run_field_120 isSome_setCell max2_int min2_int max_two min_two max_three min_three max_four min_four   -- for this text's walks alone
set_option linter.unusedVariables false
set_option linter.unusedSimpArgs false
def impl_VerifyChecksum.f (k : Nat) (a0 : ByteArray) : Option (ByteArray × Bool) := (strings_Cut.f a0 (⟨#[35]⟩ : ByteArray)).bind fun bt178 => ((impl_AppendChecksum.f k bt178.1).bind fun bt181 => (if bt181.2 = true then (if bt181.1.toList = a0.toList then (some (bt178.1, true)) else (some ((⟨#[]⟩ : ByteArray), false))) else (some ((⟨#[]⟩ : ByteArray), false))))
set_option maxHeartbeats 8000000 in
set_option maxRecDepth 100000 in
theorem impl_VerifyChecksum.calls (k : Nat) (a0 : ByteArray) (r1 : ByteArray) (r2 : Bool) (w : World) (h : impl_VerifyChecksum.f k a0 = some (r1, r2)) (hG_MaxIs : MaxIs w) (hG_Tab : Tab w) :
    Calls Tryd.prog 31 #[.string a0] w fun e w' => e = .returned (.tuple #[.string r1, .bool r2]) ∧ Below w.heap.size w w' := by
  have HG_MaxIs := Aside0.mk hG_MaxIs
  clear hG_MaxIs
  have HG_Tab := Aside0.mk hG_Tab
  clear hG_Tab
  have HB := Aside0.mk (Below.refl w.heap.size w)
  have H : ((strings_Cut.f a0 (⟨#[35]⟩ : ByteArray)).bind fun bt178 => ((impl_AppendChecksum.f k bt178.1).bind fun bt181 => (if bt181.2 = true then (if bt181.1.toList = a0.toList then (some (bt178.1, true)) else (some ((⟨#[]⟩ : ByteArray), false))) else (some ((⟨#[]⟩ : ByteArray), false))))) = some (r1, r2) := h
  clear h
  replace H := Option.bind_eq_some_iff.mp H
  obtain ⟨⟨t178, t179, t180⟩, A20, H⟩ := H
  replace H : ((impl_AppendChecksum.f k t178).bind fun bt181 => (if bt181.2 = true then (if bt181.1.toList = a0.toList then (some (t178, true)) else (some ((⟨#[]⟩ : ByteArray), false))) else (some ((⟨#[]⟩ : ByteArray), false)))) = some (r1, r2) := H
  have A2 := Aside0.mk A20
  clear A20
  replace H := Option.bind_eq_some_iff.mp H
  obtain ⟨⟨t181, t182⟩, A30, H⟩ := H
  replace H : (if t182 = true then (if t181.toList = a0.toList then (some (t178, true)) else (some ((⟨#[]⟩ : ByteArray), false))) else (some ((⟨#[]⟩ : ByteArray), false))) = some (r1, r2) := H
  have A3 := Aside0.mk A30
  clear A30
  by_cases c4 : t182 = true
  · subst c4
    have H1 : (if t181.toList = a0.toList then (some (t178, true)) else (some ((⟨#[]⟩ : ByteArray), false))) = some (r1, r2) := by rw [if_pos rfl] at H; exact H
    clear H
    have H := H1
    clear H1
    by_cases c5 : t181.toList = a0.toList
    · rw [if_pos c5] at H
      have c5b0 : (t181.toList == a0.toList) = true := beq_iff_eq.mpr c5
      have c5b1 : (t181.toList != a0.toList) = false := bne_eq_false_iff_eq.mpr c5
      clear c5
      simp only [Option.some.injEq, Prod.mk.injEq] at H
      obtain ⟨rfl, rfl⟩ := H
      go_enter Tryd.func31, Tryd.ntmps31
      go_wp2_with (first | ((with_reducible refine gate_callee (f := 60) rfl ?_); refine goesL_ (some 11) rfl rfl Tryd.func60 (by kernel_rfl) rfl #[.string a0, .string (⟨#[35]⟩ : ByteArray)] rfl (by (try simp only [List.map_toArray, List.map_cons, List.map_nil]); first | done | rfl | (simp only [List.length_drop, List.length_take]; rfl)) ?_; (with_reducible refine (strings_Cut.calls a0 (⟨#[35]⟩ : ByteArray) t178 t179 t180 _ A2.out (MaxIs.below HG_MaxIs.out (by repeat (first | (with_reducible first | exact HB.out | apply below_alloc | apply pw_below_drewN | apply below_drew1) | exact HB.out)))).mono ?_); rintro e w6 ⟨rfl, hb⟩; refine ⟨_, rfl, ?_⟩; have n0_ := Aside0.mk (below_step (by repeat (first | (with_reducible first | exact HB.out | apply below_alloc | apply pw_below_drewN | apply below_drew1) | exact HB.out)) hb); clear HB; have HB := n0_; clear n0_; (try clear hb); (try clear hb2); (try clear hk); (try clear hi)) | ((with_reducible refine gate_callee (f := 29) rfl ?_); refine goesL_ (some 17) rfl rfl Tryd.func29 (by kernel_rfl) rfl #[.string t178] rfl (by (try simp only [List.map_toArray, List.map_cons, List.map_nil]); first | done | rfl | (simp only [List.length_drop, List.length_take]; rfl)) ?_; (with_reducible refine (impl_AppendChecksum.calls k t178 t181 true _ A3.out (Tab.below HG_Tab.out (by repeat (first | (with_reducible first | exact HB.out | apply below_alloc | apply pw_below_drewN | apply below_drew1) | exact HB.out)))).mono ?_); rintro e w7 ⟨rfl, hb⟩; refine ⟨_, rfl, ?_⟩; have n0_ := Aside0.mk (below_step (by repeat (first | (with_reducible first | exact HB.out | apply below_alloc | apply pw_below_drewN | apply below_drew1) | exact HB.out)) hb); clear HB; have HB := n0_; clear n0_; (try clear hb); (try clear hb2); (try clear hk); (try clear hi)))
      go_ret2
      exact ⟨by first | rfl | (simp [errW_none, errW_some] <;> rfl) | (simp [*, errW_none, errW_some] <;> rfl), by repeat (first | (with_reducible first | exact HB.out | apply below_alloc | apply pw_below_drewN | apply below_drew1) | exact HB.out)⟩
    · rw [if_neg c5] at H
      have c5b0 : (t181.toList == a0.toList) = false := beq_eq_false_iff_ne.mpr c5
      have c5b1 : (t181.toList != a0.toList) = true := bne_iff_ne.mpr c5
      simp only [Option.some.injEq, Prod.mk.injEq] at H
      obtain ⟨rfl, rfl⟩ := H
      go_enter Tryd.func31, Tryd.ntmps31
      go_wp2_with (first | ((with_reducible refine gate_callee (f := 60) rfl ?_); refine goesL_ (some 11) rfl rfl Tryd.func60 (by kernel_rfl) rfl #[.string a0, .string (⟨#[35]⟩ : ByteArray)] rfl (by (try simp only [List.map_toArray, List.map_cons, List.map_nil]); first | done | rfl | (simp only [List.length_drop, List.length_take]; rfl)) ?_; (with_reducible refine (strings_Cut.calls a0 (⟨#[35]⟩ : ByteArray) t178 t179 t180 _ A2.out (MaxIs.below HG_MaxIs.out (by repeat (first | (with_reducible first | exact HB.out | apply below_alloc | apply pw_below_drewN | apply below_drew1) | exact HB.out)))).mono ?_); rintro e w8 ⟨rfl, hb⟩; refine ⟨_, rfl, ?_⟩; have n0_ := Aside0.mk (below_step (by repeat (first | (with_reducible first | exact HB.out | apply below_alloc | apply pw_below_drewN | apply below_drew1) | exact HB.out)) hb); clear HB; have HB := n0_; clear n0_; (try clear hb); (try clear hb2); (try clear hk); (try clear hi)) | ((with_reducible refine gate_callee (f := 29) rfl ?_); refine goesL_ (some 17) rfl rfl Tryd.func29 (by kernel_rfl) rfl #[.string t178] rfl (by (try simp only [List.map_toArray, List.map_cons, List.map_nil]); first | done | rfl | (simp only [List.length_drop, List.length_take]; rfl)) ?_; (with_reducible refine (impl_AppendChecksum.calls k t178 t181 true _ A3.out (Tab.below HG_Tab.out (by repeat (first | (with_reducible first | exact HB.out | apply below_alloc | apply pw_below_drewN | apply below_drew1) | exact HB.out)))).mono ?_); rintro e w9 ⟨rfl, hb⟩; refine ⟨_, rfl, ?_⟩; have n0_ := Aside0.mk (below_step (by repeat (first | (with_reducible first | exact HB.out | apply below_alloc | apply pw_below_drewN | apply below_drew1) | exact HB.out)) hb); clear HB; have HB := n0_; clear n0_; (try clear hb); (try clear hb2); (try clear hk); (try clear hi)))
      go_ret2
      exact ⟨by first | rfl | (simp [errW_none, errW_some] <;> rfl) | (simp [*, errW_none, errW_some] <;> rfl), by repeat (first | (with_reducible first | exact HB.out | apply below_alloc | apply pw_below_drewN | apply below_drew1) | exact HB.out)⟩
  · replace c4 := Bool.eq_false_iff.mpr c4
    subst c4
    have H1 : (some ((⟨#[]⟩ : ByteArray), false)) = some (r1, r2) := by rw [if_neg (show ¬ (false = true) by decide)] at H; exact H
    clear H
    have H := H1
    clear H1
    simp only [Option.some.injEq, Prod.mk.injEq] at H
    obtain ⟨rfl, rfl⟩ := H
    go_enter Tryd.func31, Tryd.ntmps31
    go_wp2_with (first | ((with_reducible refine gate_callee (f := 60) rfl ?_); refine goesL_ (some 11) rfl rfl Tryd.func60 (by kernel_rfl) rfl #[.string a0, .string (⟨#[35]⟩ : ByteArray)] rfl (by (try simp only [List.map_toArray, List.map_cons, List.map_nil]); first | done | rfl | (simp only [List.length_drop, List.length_take]; rfl)) ?_; (with_reducible refine (strings_Cut.calls a0 (⟨#[35]⟩ : ByteArray) t178 t179 t180 _ A2.out (MaxIs.below HG_MaxIs.out (by repeat (first | (with_reducible first | exact HB.out | apply below_alloc | apply pw_below_drewN | apply below_drew1) | exact HB.out)))).mono ?_); rintro e w10 ⟨rfl, hb⟩; refine ⟨_, rfl, ?_⟩; have n0_ := Aside0.mk (below_step (by repeat (first | (with_reducible first | exact HB.out | apply below_alloc | apply pw_below_drewN | apply below_drew1) | exact HB.out)) hb); clear HB; have HB := n0_; clear n0_; (try clear hb); (try clear hb2); (try clear hk); (try clear hi)) | ((with_reducible refine gate_callee (f := 29) rfl ?_); refine goesL_ (some 17) rfl rfl Tryd.func29 (by kernel_rfl) rfl #[.string t178] rfl (by (try simp only [List.map_toArray, List.map_cons, List.map_nil]); first | done | rfl | (simp only [List.length_drop, List.length_take]; rfl)) ?_; (with_reducible refine (impl_AppendChecksum.calls k t178 t181 false _ A3.out (Tab.below HG_Tab.out (by repeat (first | (with_reducible first | exact HB.out | apply below_alloc | apply pw_below_drewN | apply below_drew1) | exact HB.out)))).mono ?_); rintro e w11 ⟨rfl, hb⟩; refine ⟨_, rfl, ?_⟩; have n0_ := Aside0.mk (below_step (by repeat (first | (with_reducible first | exact HB.out | apply below_alloc | apply pw_below_drewN | apply below_drew1) | exact HB.out)) hb); clear HB; have HB := n0_; clear n0_; (try clear hb); (try clear hb2); (try clear hk); (try clear hi)))
    go_ret2
    exact ⟨by first | rfl | (simp [errW_none, errW_some] <;> rfl) | (simp [*, errW_none, errW_some] <;> rfl), by repeat (first | (with_reducible first | exact HB.out | apply below_alloc | apply pw_below_drewN | apply below_drew1) | exact HB.out)⟩
def laws_FnExactVerifyChecksum.f (k : Nat) (a0 : ByteArray) : Option (Bool) := if (a0.size : Int) > 1048576 then (some true) else ((spec_VerifyChecksum.f k a0).bind fun bt183 => ((impl_VerifyChecksum.f k a0).bind fun bt185 => (if bt185.1.toList = bt183.1.toList then (if (bt185.2 != bt183.2) = true then (some false) else (some true)) else (some false))))
set_option maxHeartbeats 8000000 in
set_option maxRecDepth 100000 in
theorem laws_FnExactVerifyChecksum.calls (k : Nat) (a0 : ByteArray) (r : Bool) (w : World) (h : laws_FnExactVerifyChecksum.f k a0 = some true) (hG_MaxIs : MaxIs w) (hG_Tab : Tab w) :
    Calls Tryd.prog 10 #[.string a0] w fun e w' => e = .returned (.bool true) ∧ Below w.heap.size w w' := by
  have HG_MaxIs := Aside0.mk hG_MaxIs
  clear hG_MaxIs
  have HG_Tab := Aside0.mk hG_Tab
  clear hG_Tab
  have HB := Aside0.mk (Below.refl w.heap.size w)
  have H : (if (a0.size : Int) > 1048576 then (some true) else ((spec_VerifyChecksum.f k a0).bind fun bt183 => ((impl_VerifyChecksum.f k a0).bind fun bt185 => (if bt185.1.toList = bt183.1.toList then (if (bt185.2 != bt183.2) = true then (some false) else (some true)) else (some false))))) = some true := h
  clear h
  by_cases c2 : (a0.size : Int) > 1048576
  · rw [if_pos c2] at H
    have c2b0 : decide (1048576 < (a0.size : Int)) = true := decide_eq_true c2
    have c2b1 : decide (1048576 < a0.size) = true := decide_eq_true (by omega)
    clear c2
    (first | (obtain rfl := Option.some.inj H) | (have hH_ := Option.some.inj H; try simp only [hH_]))
    go_enter Tryd.func10, Tryd.ntmps10
    go_wp2
    go_ret
    exact ⟨by first | rfl | (simp [errW_none, errW_some] <;> rfl) | (simp [*, errW_none, errW_some] <;> rfl), by repeat (first | (with_reducible first | exact HB.out | apply below_alloc | apply pw_below_drewN | apply below_drew1) | exact HB.out)⟩
  · rw [if_neg c2] at H
    have c2b0 : decide (1048576 < (a0.size : Int)) = false := decide_eq_false c2
    have c2b1 : decide (1048576 < a0.size) = false := decide_eq_false (by omega)
    clear c2
    replace H := Option.bind_eq_some_iff.mp H
    obtain ⟨⟨t183, t184⟩, A30, H⟩ := H
    replace H : ((impl_VerifyChecksum.f k a0).bind fun bt185 => (if bt185.1.toList = t183.toList then (if (bt185.2 != t184) = true then (some false) else (some true)) else (some false))) = some true := H
    have A3 := Aside0.mk A30
    clear A30
    replace H := Option.bind_eq_some_iff.mp H
    obtain ⟨⟨t185, t186⟩, A40, H⟩ := H
    replace H : (if t185.toList = t183.toList then (if (t186 != t184) = true then (some false) else (some true)) else (some false)) = some true := H
    have A4 := Aside0.mk A40
    clear A40
    by_cases c5 : t185.toList = t183.toList
    · rw [if_pos c5] at H
      have c5b0 : (t185.toList == t183.toList) = true := beq_iff_eq.mpr c5
      have c5b1 : (t185.toList != t183.toList) = false := bne_eq_false_iff_eq.mpr c5
      clear c5
      by_cases c6 : (t186 != t184) = true
      · rw [if_pos c6] at H
        exact absurd H (by simp)
      · rw [if_neg c6] at H
        have c6b0 : (t186 != t184) = false := by simpa using c6
        (try (have c6b1 : decide (t186 = t184) = true := by simpa using c6))
        (try (have c6b2 : (t186 == t184) = true := by simpa using c6))
        clear c6
        (first | (obtain rfl := Option.some.inj H) | (have hH_ := Option.some.inj H; try simp only [hH_]))
        go_enter Tryd.func10, Tryd.ntmps10
        go_wp2_with (first | ((with_reducible refine gate_callee (f := 30) rfl ?_); refine goesL_ (some 12) rfl rfl Tryd.func30 (by kernel_rfl) rfl #[.string a0] rfl (by (try simp only [List.map_toArray, List.map_cons, List.map_nil]); first | done | rfl | (simp only [List.length_drop, List.length_take]; rfl)) ?_; (with_reducible refine (spec_VerifyChecksum.calls k a0 t183 t184 _ A3.out).mono ?_); rintro e w9 ⟨rfl, hb⟩; refine ⟨_, rfl, ?_⟩; have n0_ := Aside0.mk (below_step (by repeat (first | (with_reducible first | exact HB.out | apply below_alloc | apply pw_below_drewN | apply below_drew1) | exact HB.out)) hb); clear HB; have HB := n0_; clear n0_; (try clear hb); (try clear hb2); (try clear hk); (try clear hi)) | ((with_reducible refine gate_callee (f := 31) rfl ?_); refine goesL_ (some 17) rfl rfl Tryd.func31 (by kernel_rfl) rfl #[.string a0] rfl (by (try simp only [List.map_toArray, List.map_cons, List.map_nil]); first | done | rfl | (simp only [List.length_drop, List.length_take]; rfl)) ?_; (with_reducible refine (impl_VerifyChecksum.calls k a0 t185 t186 _ A4.out (MaxIs.below HG_MaxIs.out (by repeat (first | (with_reducible first | exact HB.out | apply below_alloc | apply pw_below_drewN | apply below_drew1) | exact HB.out))) (Tab.below HG_Tab.out (by repeat (first | (with_reducible first | exact HB.out | apply below_alloc | apply pw_below_drewN | apply below_drew1) | exact HB.out)))).mono ?_); rintro e w10 ⟨rfl, hb⟩; refine ⟨_, rfl, ?_⟩; have n0_ := Aside0.mk (below_step (by repeat (first | (with_reducible first | exact HB.out | apply below_alloc | apply pw_below_drewN | apply below_drew1) | exact HB.out)) hb); clear HB; have HB := n0_; clear n0_; (try clear hb); (try clear hb2); (try clear hk); (try clear hi)))
        go_ret
        exact ⟨by first | rfl | (simp [errW_none, errW_some] <;> rfl) | (simp [*, errW_none, errW_some] <;> rfl), by repeat (first | (with_reducible first | exact HB.out | apply below_alloc | apply pw_below_drewN | apply below_drew1) | exact HB.out)⟩
    · rw [if_neg c5] at H
      exact absurd H (by simp)
end Go.Proofs.YtopfambmkmopkaaDoor.Q
namespace Go.Proofs.YtopfambmkmopkaaDoor.Q
open Go.RowKit Go.Proofs.YtopfambmkmopkaaDoorW.PrintWords Go.Proofs.YtopfambmkmopkaaDoorW.PrintLast
theorem cut_head (s : ByteArray) (b : UInt8) {q : List UInt8} {qs : List (List UInt8)} (h : pieces b (lw s) = q :: qs) : (cutOf s ⟨#[b]⟩).1 = q := by
  show (Lib.cut (lw s) [b]).1 = q
  unfold Lib.cut
  rcases index_one (lw s) b with ⟨h1, hn⟩ | ⟨i, h1, hc, hn⟩
  · rw [if_neg (by omega)]
    rw [pieces_none b _ hn] at h
    injection h
  · rw [if_pos (by omega), h1]
    rw [pieces_at b _ i hc hn] at h
    injection h
theorem both_VerifyChecksum (s : ByteArray) (hs : s.size ≤ 1048576) : ∃ r, Ev (fun k => spec_VerifyChecksum.f k s) r ∧ Ev (fun k => impl_VerifyChecksum.f k s) r := by
  obtain ⟨q, qs, hp, hq, hr⟩ := pieces_head 35 (lw s)
  have hql : q.length ≤ s.size := by
    rw [← lw_length]
    rcases hr with ⟨rfl, _⟩ | ⟨t, e⟩
    · exact Nat.le_refl _
    · rw [e, List.length_append]; omega
  have hts : (pw q).size ≤ 1073741824 := by rw [pw_size]; omega
  obtain ⟨r, r0, r1, e1, e2⟩ := sum_both (pw q) hts
  have hA := implAppend_ev (pw q) r hts r0 r1 e2
  have hS := seal_ev (pw q) r hts r0 r1 e1
  have hcut : strings_Cut.f s ⟨#[35]⟩ = some (pw q, ⟨(cutOf s ⟨#[35]⟩).2.1.toArray⟩, (cutOf s ⟨#[35]⟩).2.2) := by
    unfold strings_Cut.f
    rw [if_pos (by omega), cut_head s 35 hp]; rfl
  have hB : piecesB 35 s = pw q :: qs.map pw := by unfold piecesB; rw [hp]; rfl
  have hm : (35 : UInt8) ∉ lw (pw q) := by rw [lw_pw]; exact hq
  unfold spec_VerifyChecksum.f impl_VerifyChecksum.f
  by_cases h4 : s.size > 4000
  · refine ⟨(⟨#[]⟩, false), Ev.pos (by omega) (Ev.pure _), Ev.bindc hcut (Ev.bind hA ?_)⟩
    unfold apnd
    by_cases h5 : 4000 < (sealB (pw q) r).size
    · rw [if_pos (show (35 : UInt8) ∈ lw (pw q) ∨ 4000 < (sealB (pw q) r).size from .inr h5)]
      exact Ev.neg (by decide) (Ev.pure _)
    · rw [if_neg (show ¬ ((35 : UInt8) ∈ lw (pw q) ∨ 4000 < (sealB (pw q) r).size) from fun z => z.elim hm h5)]
      refine Ev.pos rfl (Ev.neg (fun e => ?_) (Ev.pure _))
      have e3 : sealB (pw q) r = s := (tl_eq _ _).1 e
      rw [e3] at h5
      omega
  · by_cases he : sealB (pw q) r = s
    · refine ⟨(pw q, true), Ev.neg (by omega) (Ev.bind (split_ev s 35 (by omega)) ?_), Ev.bindc hcut (Ev.bind hA ?_)⟩
      · rw [hB]
        exact Ev.pos (by rw [List.length_cons]; omega) (Ev.bind hS (Ev.pos (by rw [he]) (Ev.pure _)))
      · unfold apnd
        rw [if_neg (show ¬ ((35 : UInt8) ∈ lw (pw q) ∨ 4000 < (sealB (pw q) r).size) from fun z => z.elim hm (fun h5 => by rw [he] at h5; exact h4 h5))]
        exact Ev.pos rfl (Ev.pos (by rw [he]) (Ev.pure _))
    · refine ⟨(⟨#[]⟩, false), Ev.neg (by omega) (Ev.bind (split_ev s 35 (by omega)) ?_), Ev.bindc hcut (Ev.bind hA ?_)⟩
      · rw [hB]
        exact Ev.pos (by rw [List.length_cons]; omega) (Ev.bind hS (Ev.neg (fun e => he ((tl_eq _ _).1 e)) (Ev.pure _)))
      · unfold apnd
        split
        · exact Ev.neg (by decide) (Ev.pure _)
        · exact Ev.pos rfl (Ev.neg (fun e => he ((tl_eq _ _).1 e)) (Ev.pure _))
end Go.Proofs.YtopfambmkmopkaaDoor.Q
namespace Go.Proofs.YtopfambmkmopkaaDoor.Pure
open Go.Proofs.YtopfambmkmopkaaDoor.Q Go.RowKit Go.Proofs.YtopfambmkmopkaaDoorW.PrintWords Go.Proofs.YtopfambmkmopkaaDoorW.PrintLast
theorem FnExactVerifyChecksum (a0 : ByteArray) (hw_a0 : a0.size ≤ 140737488351232) : ∃ k, laws_FnExactVerifyChecksum.f k a0 = some true := by
  refine Q.Ev.ex ?_
  unfold laws_FnExactVerifyChecksum.f
  by_cases hs : (a0.size : Int) > 1048576
  · exact Q.Ev.pos hs (Q.Ev.pure _)
  · obtain ⟨r, e1, e2⟩ := both_VerifyChecksum a0 (by omega)
    exact Q.Ev.neg hs (Q.Ev.bind e1 (Q.Ev.bind e2 (Q.Ev.pos rfl (Q.Ev.neg (by simp) (Q.Ev.pure _)))))
end Go.Proofs.YtopfambmkmopkaaDoor.Pure
namespace Go.Proofs.YtopfambmkmopkaaDoor.fnExactVerifyChecksum
open Go.ChangeShapes Go.WideShapes Go.ChangeAt Go.RowKit
open Go.ChangeMaps (open_string shut_string)
set_option linter.unusedVariables false
theorem own : ownKnob Tryd.prog.godebug = none := by kernel_rfl
set_option maxRecDepth 100000 in
theorem lifted (os : Os) (started : os.Started) (H : Type) (enc : TypeId × Value → H) :
    ReturnsInHanded {} Tryd.checked os 10 .any (fun w args => (Rows.fnExactVerifyChecksumSpec.pre enc Tryd.prog Tryd.f10 Rows.fnExactVerifyChecksumRow.domain false w args ∧ laidMetH Tryd.prog Rows.fnExactVerifyChecksumRow.laid w) ∧ sizedMet enc Tryd.prog Tryd.f10 (OpenSpec.ofChange Rows.fnExactVerifyChecksumSpec) false w args) (Rows.fnExactVerifyChecksumSpec.post enc Tryd.prog Tryd.f10 false true false false) := by
  refine Q.wrap_listed (C := Tryd.checked) (X := fun w => laidMetH Tryd.prog Rows.fnExactVerifyChecksumRow.laid w) (fun _ _ hh h => h.of_heap hh) own started (by kernel_rfl) Tryd.func10
    (ChangeSpec.witness_shaped (enc := enc) (C := Tryd.checked) (os := os) (X := fun w _ => laidMetH Tryd.prog Rows.fnExactVerifyChecksumRow.laid w) false (World.laidAll Tryd.prog os Rows.fnExactVerifyChecksumRow.laid) #[.string ByteArray.empty] 8 (World.laidAll_os _ _ _)
      (World.shaped_of_ZipB (by kernel_rfl) (by kernel_rfl)) (by kernel_rfl) (by kernel_rfl) (by kernel_rfl)
      (by rw [MakeChecks.laidMetH_plain _ _ _ (by kernel_rfl)]; exact laidMet_laidAll _ (by kernel_rfl) (by kernel_rfl))) ?_
  intro W base args ds gs before hval0 hW hcnd hsz0 hL hsh
  have hsz : (DataW.weightsEach Tryd.prog (Tryd.f10.params.toList ++ Rows.fnExactVerifyChecksumSpec.plain.varTypes Tryd.prog) (ds ++ gs)).all (· ≤ reachBytes) = true := hsz0
  have hval : ∀ (j : Nat) t v, Tryd.f10.params[j]? = some t → args[j]? = some v → Value.okWide Tryd.prog W .any base t v := hval0
  have hW' := hW
  obtain ⟨p, q, hA0, hV, rfl, hfz, hnd⟩ := hW
  have hA : DataW.TrodAll enc Tryd.prog W 0 (fun _ => true) true Tryd.f10.params.toList args.toList ds p := hA0
  rw [Tryd.params10] at hA hval hsz
  obtain ⟨v0, vs0, d0, ds0, p0, q0, hargs, rfl, rfl, h0, r0⟩ := trodAll_cons hA
  obtain ⟨rfl, rfl, rfl⟩ := trodAll_nil r0
  obtain rfl : args = #[v0] := by cases args; simp_all
  obtain ⟨rfl, rfl⟩ := trodVars_none hV
  obtain ⟨a0, rfl, rfl, rfl, y0⟩ := open_string Tryd.underlying9 (hval 0 9 v0 rfl rfl) h0
  have w0 : a0.size ≤ 140737488351232 := by
    have z := sized_string hsz (j := 0) (t := 9) rfl rfl
    rw [Array.length_toList] at z
    exact z
  clear hA0 hval0 hsz0 hsz
  have hL2 : laidMet Tryd.prog Rows.fnExactVerifyChecksumRow.laid W := by rw [← MakeChecks.laidMetH_plain _ _ _ (by kernel_rfl)]; exact hL
  have hG_Tab : Q.Tab W := Q.tab_of hL2.tail.tail
  have hG_MaxIs : Q.MaxIs W := Q.max_of hsh
  obtain ⟨k, hk⟩ := Pure.FnExactVerifyChecksum a0 w0
  refine (Q.laws_FnExactVerifyChecksum.calls k a0 true W hk hG_MaxIs hG_Tab).mono fun e W' ⟨he, bel0⟩ => ?_
  have bel : Below W.heap.size W W' := bel0
  subst he
  exact ⟨_, rfl, _, _, _, [], _, [], hW', trodAll_mk1 (shut_bool Tryd.underlying4 _), (trodAll_cons_mk (shut_string Tryd.underlying9 y0) trodAll_mk0), rfl, bel.frame _, fun h => by cases h⟩
theorem over : Rows.fnExactVerifyChecksumRow.holds Tryd.pinned (OpenSpec.ofChange Rows.fnExactVerifyChecksumSpec) :=
  OpenClaim.holds_of_wide 10 Tryd.f10 rfl rfl rfl rfl rfl rfl rfl ⟨rfl, rfl, rfl, rfl, rfl⟩ rfl rfl rfl rfl rfl (by kernel_rfl) Tryd.func10 (by kernel_rfl)
    (of_decide_eq_true (by kernel_rfl)) (by unfold Func.isWrapper; first | (rw [if_pos (by decide +kernel)]; kernel_rfl) | (rw [if_neg (by decide +kernel)]; exact ⟨rfl, rfl⟩))
    (fun os started H enc _ => lifted os started H enc)
set_option maxRecDepth 100000 in
theorem proved : Rows.FnExactVerifyChecksumCardSaid :=
  Claim7.holds_tied_plain_at .later [] [.data, .data, .data] true (true, "2ab2bbb0c1343fdead54ac4658a0c3375425b3a95e06429362e1757c87661d9c") true over (fun _ h => by cases h) (by kernel_rfl) (fun _ h => by cases h) fnExactVerifyChecksum_row_tie rfl ⟨rfl, rfl⟩ (by kernel_rfl) rfl
    (fun f fn hf hfn => by
      obtain rfl : f = 10 := Option.some.inj ((show Tryd.prog.funcNamed Tryd.f10.name = some 10 by kernel_rfl).symm.trans hf) |>.symm
      obtain rfl : fn = Tryd.f10 := (Option.some.inj (Tryd.func10.symm.trans hfn)).symm
      exact ⟨by kernel_rfl, fun j t ht => by
        rw [Tryd.params10] at ht
        have hm : t ∈ [9] := by simpa using Array.mem_of_getElem? ht
        have hall : ([9].all fun u => !Tryd.prog.wantsStandIn u) = true := by kernel_rfl
        exact (show Tryd.prog.wantsStandIn t = false by simpa using List.all_eq_true.1 hall t hm)⟩)
    (by kernel_rfl)
end Go.Proofs.YtopfambmkmopkaaDoor.fnExactVerifyChecksum
namespace Go.Proofs.YtopfambmkmopkaaDoor
theorem fnExactVerifyChecksum_holds : Rows.FnExactVerifyChecksumCardSaid := fnExactVerifyChecksum.proved
end Go.Proofs.YtopfambmkmopkaaDoor
