/- Texts of one proof put together: walks of the program's functions, and plain laws on what they compute. -/
import Derived.Test.YtbedgcngoddkdaaV0
import Derived.Test.YtbedgcngoddkdaaV1
import Derived.Test.YtbedgcngoddkdaaWWords
import Derived.Test.YtbedgcngoddkdaaWLast
import Derived.Test.YtbedgcngoddkdaaWTab
import Derived.Test.YtbedgcngoddkdaaWApart
import Derived.Test.YtbedgcngoddkdaaWFoot
import Derived.Test.YtbedgcngoddkdaaWKept
import Derived.Test.YtbedgcngoddkdaaWShare
import Derived.Test.YtbedgcngoddkdaaWN
import Derived.Test.YtbedgcngoddkdaaWEqStruct
import Derived.Test.YtbedgcngoddkdaaWRepsOne
import Derived.Test.YtbedgcngoddkdaaWGuard
import Derived.Test.YtbedgcngoddkdaaWMore
import Derived.Test.YtbedgcngoddkdaaProg
import Derived.Below
import Derived.Deep.Draws
import Derived.Deep.AppendLies
import Derived.Maps.AppendAt
import Derived.OwnWalk
import Derived.Laws.BytesArg
import Derived.Laws.MakeOwn
import Derived.Laws.OwnMore
import Derived.Deep.OwnRows
import Derived.Tactics
import Derived.Lib.ConvBytes
import Derived.Laws.Slices
import Derived.WalkKit
import Derived.KernelRfl
import Derived.RowKit3
import Derived.Deep.LoopGhost
import Derived.Deep.QuietTactic
import Derived.BigQuiet
import Derived.WideLaws
import Derived.Deep.DeepCutAuto
import Derived.Deep.CutBlock
import Derived.Deep.RegionHeld3
import Derived.Laws.Rows
import Derived.Lib.AppendStr
import Derived.ArgAppend
import Derived.Laws.IdiomCopy
import Derived.OrdersHeld
import Derived.Laws.BitsLemmas
import Derived.RowKit
import Derived.Lib.SlicesCompact
import Derived.Maps.Own
import Derived.StringKeys
import Derived.Maps.OwnOps
import Derived.Maps.OwnSet
import Derived.Maps.Views
import Derived.Laws.AppendOwn
import Derived.Deep.DrawnRows
import Derived.Shelf.Sort.Plain
import Derived.Shelf.Slices.CompactS
import Derived.Shelf.Slices.In.SortNone
import Derived.RangeFuncBox
import Derived.RangeFuncLeaves
import Derived.Shelf.Abstract
import Derived.OwnWalkIn
import Derived.TacticsInMore
import Derived.LoopNIn
import Derived.LoopIn
import Derived.Lib.OwnBridge
import Derived.Sort.OwnSorted
import Derived.Sort.Grow
import Derived.Shelf.Strings.OnBuilder
import Derived.Ground.NamesProg
import Derived.Ground.SlgfProg
import Derived.Sort.Walk0
import Derived.Lib.Strings
import Derived.Shelf.SlicesE.DeleteFunc
import Derived.Lib.SliceRun
import Derived.Lib.SlKept
import Derived.RegionTactic
import Derived.BigRegion
set_option linter.unusedVariables false
set_option linter.unusedSimpArgs false
namespace Go.Proofs.Ytbedgcngoddkdaa.Q
open Go.RowKit Go.Proofs.YtbedgcngoddkdaaW.PrintWords Go.Proofs.YtbedgcngoddkdaaW.PrintLast Go.Proofs.YtbedgcngoddkdaaW.PrintMore
attribute [local go_sem] run_field_23 run_field_24 run_field_29 run_field_30 run_field_51 run_field_52 isSome_setCell max2_int min2_int max_two min_two max_three min_three max_four min_four   -- for this text's walks alone
set_option linter.unusedVariables false
set_option linter.unusedSimpArgs false
def impl_isTrie.j0 : Nat → Bool → List (S86) → Option (Bool)
  | 0, _, _ => none
  | k + 1, x16, x318000 => if x16 = true then (some false) else ((impl_Trie_words.f k x318000).bind fun t323 => (if (t323.length : Int) ≤ 40 then ((slices_IsSorted_string_string.f k t323).bind fun t326 => (if t326 = true then ((impl_trieOf.f t323).bind fun t327 => ((impl_Node.f k t327 x318000).bind fun t330 => (some t330))) else (some false))) else (some false)))
def impl_isTrie.f (k : Nat) (l0_0 : List (S86)) : Option (Bool) := (impl_Trie_prefixes.f k l0_0).bind fun bt318 => (if bt318.2 = true then ((slices_ContainsFunc_string_string_impl_isTrie_1.f bt318.1).bind fun t322 => (impl_isTrie.j0 k t322 l0_0)) else (impl_isTrie.j0 k true l0_0))
def impl_isTrie.T5 : Bool × List (List Nat × List Nat) := (true, [([], []), ([0], [0]), ([1], [1]), ([2], [2]), ([3], [3]), ([4, 3, 3], [3, 4]), ([3, 5], [3, 5]), ([6, 5], [6]), ([7], [7]), ([8, 7, 7], [7, 8]), ([9, 7], [7, 9]), ([7], [7]), ([11, 7], [7, 11]), ([10, 12, 9, 7], [7, 10, 12]), ([7, 13], [7, 13]), ([14, 13, 0, 1, 2, 3, 4, 5, 6, 7, 8, 9, 10, 11, 12, 13, 14], [14])])
def impl_isTrie.B5 : List Nat := [0, 1, 3, 7, 15, 31, 63, 127, 255, 511, 1023, 255, 2303, 8191, 16383, 32767]
theorem impl_isTrie.tab5 : rtab .any (opsOf Try.f55 5) = impl_isTrie.T5 := by kernel_rfl
theorem impl_isTrie.bits5 : waitsOk impl_isTrie.T5.2 impl_isTrie.B5 = true := by kernel_rfl
set_option maxHeartbeats 8000000 in
set_option maxRecDepth 100000 in
theorem impl_isTrie.calls (k : Nat) (A0_0 : Option Addr) (c0_0 : Nat) (l0_0 : List (S86)) (r : Bool) (w : World) (hr0_0 : Kd.C k86 w A0_0 l0_0.length l0_0) (hc0_0 : l0_0.length ≤ c0_0) (h : impl_isTrie.f k l0_0 = some r) :
    Calls Try.prog 55 #[.agg #[.slice A0_0 l0_0.length c0_0]] w fun e w' => e = .returned (.bool r) ∧ Below w.heap.size w w' := by
  have hu30 := Try.underlying30
  have HR0_0 := Aside0.mk hr0_0
  have HC0_0 := Aside0.mk hc0_0
  clear hr0_0 hc0_0
  have HB := Aside0.mk (Below.refl w.heap.size w)
  have H : ((impl_Trie_prefixes.f k l0_0).bind fun bt318 => (if bt318.2 = true then ((slices_ContainsFunc_string_string_impl_isTrie_1.f bt318.1).bind fun t322 => (impl_isTrie.j0 k t322 l0_0)) else (impl_isTrie.j0 k true l0_0))) = some r := h
  clear h
  replace H := Option.bind_eq_some_iff.mp H
  obtain ⟨⟨t318, t321⟩, A20, H⟩ := H
  replace H : (if t321 = true then ((slices_ContainsFunc_string_string_impl_isTrie_1.f t318).bind fun t322 => (impl_isTrie.j0 k t322 l0_0)) else (impl_isTrie.j0 k true l0_0)) = some r := H
  have A2 := Aside0.mk A20
  clear A20
  have HC3 := Aside0.mk H
  clear H
  go_enter Try.func55, Try.ntmps55
  go_upto_region 2 with (first | ((with_reducible refine gate_dst (N := 1) rfl ?_); refine box_event ?hg (N := 1) ?hd (cs := #[.slice A0_0 l0_0.length c0_0]) (t := 30) ?hr ?_; (case hd => rfl); (case hg => rfl); (case hr => first | (go_simp; done) | (go_simp; rfl)); intro gb317 hg w4 hbox hb; have n0_ := Aside0.mk (below_step (by repeat (first | (with_reducible first | exact HB.out | apply below_alloc | apply pw_below_drewN | apply below_drew1) | exact HB.out)) hb); have n1_ := Aside0.mk (hbox); have n2_ := Aside0.mk ((by rw [hg]; exact (below_size (by repeat (first | (with_reducible first | exact HB.out | apply below_alloc | apply pw_below_drewN | apply below_drew1) | exact HB.out))) : w.heap.size ≤ gb317)); have n3_ := Aside0.mk ((by rw [hg]; exact (below_size (by repeat (first | (with_reducible first | exact HB.out | apply below_alloc | apply pw_below_drewN | apply below_drew1) | exact HB.out))) : w.heap.size ≤ gb317)); clear HB; have HB := n0_; have BK317 := n1_; have GW317 := n2_; have GE317 := n3_; clear n0_ n1_ n2_ n3_; clear hb hbox hg; have hcz5_0 : w4.cell? ⟨gb317, 0, none⟩ = some (.slice A0_0 l0_0.length c0_0) := (blk_cell BK317.out 0).trans rfl; have hfz5_0 := blk_frozen BK317.out 0) | ((with_reducible refine gate_callee (f := 90) rfl ?_); refine goesL_ (some 8) rfl rfl Try.func90 (by kernel_rfl) rfl #[.agg #[.slice A0_0 l0_0.length c0_0]] rfl (by (try simp only [List.map_toArray, List.map_cons, List.map_nil]); first | done | rfl | (simp only [List.length_drop, List.length_take]; rfl)) ?_; (with_reducible refine (impl_Trie_prefixes.calls k _ _ l0_0 t318 t321 _ ?side1 ?side2 A2.out).mono ?_); (case side1 => repeat (first | exact (Kd.C_below HR0_0.out HB.out) | (with_reducible refine Kd.C_alloc ?_ _) | (with_reducible refine Kd.C_drewN ?_ _) | (with_reducible refine Kd.C_drew ?_))); (case side2 => exact HC0_0.out); rintro e w6 ⟨v319, rfl, ho0, hb⟩; refine ⟨_, rfl, ?_⟩; have n0_ := Aside0.mk (Kd.R_lower ho0 (below_size (by repeat (first | (with_reducible first | exact HB.out | apply below_alloc | apply pw_below_drewN | apply below_drew1 | refine below_set ?_ GE317.out) | exact HB.out)))); have n1_ := Aside0.mk (blk_below (g := gb317) (o := .cells #[.slice A0_0 l0_0.length c0_0] 30 (0, 0)) (by (with_reducible repeat (first | refine blk_drewN ?_ _ | refine blk_drew ?_ | refine blk_alloc ?_ _)); exact BK317.out) hb); have n2_ := Aside0.mk (below_step (by repeat (first | (with_reducible first | exact HB.out | apply below_alloc | apply pw_below_drewN | apply below_drew1 | refine below_set ?_ GE317.out) | exact HB.out)) hb); clear BK317; clear HB; have HO320 := n0_; have BK317 := n1_; have HB := n2_; clear n0_ n1_ n2_; (try clear hb); (try clear hb2); (try clear hk); (try clear hi); (try clear ho0)))
  (try simp only [Act.put, List.setIfInBounds_toArray, List.set_cons_zero, List.set_cons_succ])
  go_cut [16] (fun v16 wc => ∃ (kq : Nat) (x16_2 : Bool), v16 = .bool x16_2 ∧ Aside0 (impl_isTrie.j0 kq x16_2 l0_0 = some r) ∧ Aside0 (kq ≤ k) ∧ Aside0 (wc.heap[gb317]? = some (.cells #[(.slice A0_0 l0_0.length c0_0)] 30 (0, 0))) ∧ Aside0 (Below w.heap.size w wc))
  case first =>
    have H := HC3.out
    clear HC3
    by_cases c7 : t321 = true
    · subst c7
      have H1 : ((slices_ContainsFunc_string_string_impl_isTrie_1.f t318).bind fun t322 => (impl_isTrie.j0 k t322 l0_0)) = some r := by rw [if_pos rfl] at H; exact H
      clear H
      have H := H1
      clear H1
      replace H := Option.bind_eq_some_iff.mp H
      obtain ⟨t322, A80, H⟩ := H
      replace H : (impl_isTrie.j0 k t322 l0_0) = some r := H
      have A8 := Aside0.mk A80
      clear A80
      have H' := Aside0.mk H
      clear H
      obtain ⟨Ao9, co9, eo9⟩ := Kd.R_slice HO320.out
      subst eo9
      go_wp2_with (first | (go_at_call 61; (with_reducible refine (slices_ContainsFunc_string_string_impl_isTrie_1.calls _ _ t318 t322 _ ?side1 ?side2 A8.out).mono ?_); (case side1 => repeat (first | exact (Kd.R_reads' HO320.out).2.2 | (with_reducible refine Kd.C_alloc ?_ _) | (with_reducible refine Kd.C_drewN ?_ _) | (with_reducible refine Kd.C_drew ?_))); (case side2 => exact (Kd.R_reads' HO320.out).2.1); rintro e w' ⟨rfl, ⟨nd, rfl⟩⟩))
      go_meet
      case rel => exact ⟨_, (t322), (by first | rfl | (simp; done) | (simp [*]; done)), H', ⟨by first | omega | exact Nat.le_refl _⟩, ⟨by (with_reducible repeat (first | refine blk_drewN ?_ _ | refine blk_drew ?_ | refine blk_alloc ?_ _)); exact BK317.out⟩, ⟨by repeat (first | (with_reducible first | exact HB.out | apply below_alloc | apply pw_below_drewN | apply below_drew1 | refine below_set ?_ GE317.out) | exact HB.out)⟩⟩
    · replace c7 := Bool.eq_false_iff.mpr c7
      subst c7
      have H1 : (impl_isTrie.j0 k true l0_0) = some r := by rw [if_neg (show ¬ (false = true) by decide)] at H; exact H
      clear H
      have H := H1
      clear H1
      have H' := Aside0.mk H
      clear H
      go_wp2
      go_meet
      case rel => exact ⟨_, (true), (by first | rfl | (simp; done) | (simp [*]; done)), H', ⟨by first | omega | exact Nat.le_refl _⟩, ⟨by (with_reducible repeat (first | refine blk_drewN ?_ _ | refine blk_drew ?_ | refine blk_alloc ?_ _)); exact BK317.out⟩, ⟨by repeat (first | (with_reducible first | exact HB.out | apply below_alloc | apply pw_below_drewN | apply below_drew1 | refine below_set ?_ GE317.out) | exact HB.out)⟩⟩
  case rest =>
    clear HC3
    try clear p2
    try clear c5
    try clear c7
    try clear c9
    try clear hcz5_0
    try clear hfz5_0
    obtain ⟨kq, x16_2, rfl, HA, HJ2, BK317, HB⟩ := hcut
    cases kq with
    | zero => exact absurd HA.out (by simp [impl_isTrie.j0])
    | succ kj2 =>
      have H := HA.out
      clear HA
      simp only [impl_isTrie.j0] at H
      by_cases c10 : x16_2 = true
      · subst c10
        have H1 : (some false) = some r := by rw [if_pos rfl] at H; exact H
        clear H
        have H := H1
        clear H1
        obtain rfl := Option.some.inj H
        go_wp2
        go_ret
        exact ⟨by first | rfl | (simp [errW_none, errW_some] <;> rfl) | (simp [*, errW_none, errW_some] <;> rfl), by repeat (first | (with_reducible first | exact HB.out | apply below_alloc | apply pw_below_drewN | apply below_drew1 | refine below_set ?_ GE317.out) | exact HB.out)⟩
      · replace c10 := Bool.eq_false_iff.mpr c10
        subst c10
        have H1 : ((impl_Trie_words.f kj2 l0_0).bind fun t323 => (if (t323.length : Int) ≤ 40 then ((slices_IsSorted_string_string.f kj2 t323).bind fun t326 => (if t326 = true then ((impl_trieOf.f t323).bind fun t327 => ((impl_Node.f kj2 t327 l0_0).bind fun t330 => (some t330))) else (some false))) else (some false))) = some r := by rw [if_neg (show ¬ (false = true) by decide)] at H; exact H
        clear H
        have H := H1
        clear H1
        replace H := Option.bind_eq_some_iff.mp H
        obtain ⟨t323, A110, H⟩ := H
        replace H : (if (t323.length : Int) ≤ 40 then ((slices_IsSorted_string_string.f kj2 t323).bind fun t326 => (if t326 = true then ((impl_trieOf.f t323).bind fun t327 => ((impl_Node.f kj2 t327 l0_0).bind fun t330 => (some t330))) else (some false))) else (some false)) = some r := H
        have A11 := Aside0.mk A110
        clear A110
        by_cases c12 : (t323.length : Int) ≤ 40
        · rw [if_pos c12] at H
          have c12b0 : decide ((t323.length : Int) ≤ 40) = true := decide_eq_true c12
          have c12b1 : decide (t323.length ≤ 40) = true := decide_eq_true (by omega)
          clear c12
          replace H := Option.bind_eq_some_iff.mp H
          obtain ⟨t326, A130, H⟩ := H
          replace H : (if t326 = true then ((impl_trieOf.f t323).bind fun t327 => ((impl_Node.f kj2 t327 l0_0).bind fun t330 => (some t330))) else (some false)) = some r := H
          have A13 := Aside0.mk A130
          clear A130
          by_cases c14 : t326 = true
          · subst c14
            have H1 : ((impl_trieOf.f t323).bind fun t327 => ((impl_Node.f kj2 t327 l0_0).bind fun t330 => (some t330))) = some r := by rw [if_pos rfl] at H; exact H
            clear H
            have H := H1
            clear H1
            replace H := Option.bind_eq_some_iff.mp H
            obtain ⟨t327, A150, H⟩ := H
            replace H : ((impl_Node.f kj2 t327 l0_0).bind fun t330 => (some t330)) = some r := H
            have A15 := Aside0.mk A150
            clear A150
            replace H := Option.bind_eq_some_iff.mp H
            obtain ⟨t330, A160, H⟩ := H
            replace H : (some t330) = some r := H
            have A16 := Aside0.mk A160
            clear A160
            obtain rfl := Option.some.inj H
            have hcz17_0 : wc.cell? ⟨gb317, 0, none⟩ = some (.slice A0_0 l0_0.length c0_0) := (blk_cell BK317.out 0).trans rfl
            have hfz17_0 := blk_frozen BK317.out 0
            try go_wp2_with (first | ((with_reducible refine gate_callee (f := 57) rfl ?_); refine goesL_ (some 18) rfl rfl Try.func57 (by kernel_rfl) rfl #[.agg #[.slice A0_0 l0_0.length c0_0]] rfl (by (try simp only [List.map_toArray, List.map_cons, List.map_nil]); first | done | rfl | (simp only [List.length_drop, List.length_take]; rfl)) ?_; (with_reducible refine (impl_Trie_words.calls kj2 _ _ l0_0 t323 _ ?side1 ?side2 A11.out).mono ?_); (case side1 => repeat (first | exact (Kd.C_below HR0_0.out HB.out) | (with_reducible refine Kd.C_alloc ?_ _) | (with_reducible refine Kd.C_drewN ?_ _) | (with_reducible refine Kd.C_drew ?_))); (case side2 => exact HC0_0.out); rintro e w18 ⟨v324, rfl, ho0, hb⟩; refine ⟨_, rfl, ?_⟩; have n0_ := Aside0.mk (Kd.R_lower ho0 (below_size (by repeat (first | (with_reducible first | exact HB.out | apply below_alloc | apply pw_below_drewN | apply below_drew1 | refine below_set ?_ GE317.out) | exact HB.out)))); have n1_ := Aside0.mk (blk_below (g := gb317) (o := .cells #[.slice A0_0 l0_0.length c0_0] 30 (0, 0)) (by (with_reducible repeat (first | refine blk_drewN ?_ _ | refine blk_drew ?_ | refine blk_alloc ?_ _)); exact BK317.out) hb); have n2_ := Aside0.mk (below_step (by repeat (first | (with_reducible first | exact HB.out | apply below_alloc | apply pw_below_drewN | apply below_drew1 | refine below_set ?_ GE317.out) | exact HB.out)) hb); clear BK317; clear HB; have HO325 := n0_; have BK317 := n1_; have HB := n2_; clear n0_ n1_ n2_; (try clear hb); (try clear hb2); (try clear hk); (try clear hi); (try clear ho0)))
            have n0_ := Aside0.mk (Kd.R_drew HO325.out)
            have n1_ := Aside0.mk (blk_drew BK317.out)
            have n2_ := Aside0.mk (below_drew1 HB.out)
            clear HO325
            clear BK317
            clear HB
            have HO325 := n0_
            have BK317 := n1_
            have HB := n2_
            clear n0_ n1_ n2_
            obtain ⟨Ao20, co20, eo20⟩ := Kd.R_slice HO325.out
            (first | subst eo20 | (injection eo20 with f1_ f2_ f3_; have f4_ := f1_.symm; have f5_ := f3_.symm; clear f1_ f2_ f3_; subst f4_; subst f5_))
            refine start_ (n := 16) (S := fun w' => w'.cell? ⟨gb317, 0, none⟩ = some (.slice A0_0 l0_0.length c0_0)) (ds := []) #[false, false, false, false, false, false, false, false, false, false, false, false, false, false, false, false] (by kernel_rfl) rfl rfl ((blk_cell BK317.out 0).trans rfl) (fun hHeld => ?_); refine with_tabW impl_isTrie.tab5 impl_isTrie.bits5 (fun HT_ HW_ => ?_)
            generalize w18.drew = w19 at HO325 BK317 HB hHeld ⊢
            refine pure_ (i := 0) (N := some 19) (v := ?_) (a' := ?_) #[true, false, false, false, false, false, false, false, false, false, false, false, false, false, false, false] rfl rfl (any_of HT_.out (by kernel_rfl)) (fun _ _ _ h => h) (Or.inl ⟨by rfl, ?_⟩) ?_ ?_
            rotate_left
            · intro w'
              go_simp
              with_reducible rfl
            rotate_left
            · simp only [Act.put, List.setIfInBounds_toArray, List.set_cons_zero, List.set_cons_succ, i64_w, i32_w]
              rfl
            refine pure_ (i := 1) (N := some 20) (v := ?_) (a' := ?_) #[true, true, false, false, false, false, false, false, false, false, false, false, false, false, false, false] rfl rfl (any_of HT_.out (by kernel_rfl)) (fun _ _ _ h => h) (Or.inl ⟨by rfl, ?_⟩) ?_ ?_
            rotate_left
            · intro w'
              go_simp
              with_reducible rfl
            rotate_left
            · simp only [Act.put, List.setIfInBounds_toArray, List.set_cons_zero, List.set_cons_succ, i64_w, i32_w]
              rfl
            refine pure_ (i := 2) (N := some 21) (v := ?_) (a' := ?_) #[true, true, true, false, false, false, false, false, false, false, false, false, false, false, false, false] rfl rfl (any_of HT_.out (by kernel_rfl)) (fun _ _ _ h => h) (Or.inl ⟨by rfl, ?_⟩) ?_ ?_
            rotate_left
            · intro w'
              go_simp
              with_reducible rfl
            rotate_left
            · simp only [Act.put, List.setIfInBounds_toArray, List.set_cons_zero, List.set_cons_succ, i64_w, i32_w]
              rfl
            refine pure_ (i := 3) (N := some 22) (v := ?_) (a' := ?_) #[true, true, true, true, false, false, false, false, false, false, false, false, false, false, false, false] rfl rfl (any_of HT_.out (by kernel_rfl)) (fun _ _ _ h => h) (Or.inl ⟨by rfl, ?_⟩) ?_ ?_
            rotate_left
            · intro w'
              go_simp
              with_reducible rfl
            rotate_left
            · simp only [Act.put, List.setIfInBounds_toArray, List.set_cons_zero, List.set_cons_succ, i64_w, i32_w]
              rfl
            refine pure_ (i := 4) (N := some 23) (v := ?_) (a' := ?_) #[true, true, true, true, true, false, false, false, false, false, false, false, false, false, false, false] rfl rfl (any_of HT_.out (by kernel_rfl)) (fun _ _ _ h => h) (Or.inl ⟨by rfl, ?_⟩) ?_ ?_
            rotate_left
            · intro w'
              go_simp
              with_reducible rfl
            rotate_left
            · simp only [Act.put, List.setIfInBounds_toArray, List.set_cons_zero, List.set_cons_succ, i64_w, i32_w]
              rfl
            refine one_ (i := 5) (N := some 24) #[true, true, true, true, true, true, false, false, false, false, false, false, false, false, false, false] rfl rfl (one_of HT_.out (by kernel_rfl)) (by decide) (fun K hK => ?_)
            refine goes_ Try.func92 (by kernel_rfl) rfl #[.slice Ao20 t323.length co20] (by rfl) rfl rfl (by (try simp only [List.map_toArray, List.map_cons, List.map_nil]); first | done | rfl | (simp only [List.length_drop, List.length_take]; rfl)) ?_
            with_reducible refine (slices_IsSorted_string_string.calls kj2 _ _ t323 true _ ?side1 ?side2 A13.out).mono ?_
            (case side1 => repeat (first | exact (Kd.R_reads' HO325.out).2.2 | (with_reducible refine Kd.C_alloc ?_ _) | (with_reducible refine Kd.C_drewN ?_ _) | (with_reducible refine Kd.C_drew ?_)))
            (case side2 => exact (Kd.R_reads' HO325.out).2.1)
            rintro e w' ⟨rfl, ⟨nd, rfl⟩⟩
            refine ⟨_, rfl, ?_⟩
            refine hK.out _ _ ((blk_cell BK317.out 0).trans rfl) (fun hHeld => ?_)
            clear hK K
            refine norm_ (a' := ?_) ?_ ?_
            rotate_left
            · show Act.put _ (some 24) _ = _
              simp only [Act.put, List.setIfInBounds_toArray, List.set_cons_zero, List.set_cons_succ, i64_w, i32_w]
              rfl
            refine pure_ (i := 6) (N := some 25) (v := ?_) (a' := ?_) #[true, true, true, true, true, true, true, false, false, false, false, false, false, false, false, false] rfl rfl (any_of HT_.out (by kernel_rfl)) (fun _ _ _ h => h) (Or.inl ⟨by rfl, ?_⟩) ?_ ?_
            rotate_left
            · intro w'
              go_simp
              with_reducible rfl
            rotate_left
            · simp only [Act.put, List.setIfInBounds_toArray, List.set_cons_zero, List.set_cons_succ, i64_w, i32_w]
              rfl
            refine pure_ (i := 7) (N := some 26) (v := ?_) (a' := ?_) #[true, true, true, true, true, true, true, true, false, false, false, false, false, false, false, false] rfl rfl (any_of HT_.out (by kernel_rfl)) (fun _ _ _ h => h) (Or.inl ⟨by rfl, ?_⟩) ?_ ?_
            rotate_left
            · intro w'
              go_simp
              with_reducible rfl
            rotate_left
            · simp only [Act.put, List.setIfInBounds_toArray, List.set_cons_zero, List.set_cons_succ, i64_w, i32_w]
              rfl
            refine pure_ (i := 8) (N := some 27) (v := ?_) (a' := ?_) #[true, true, true, true, true, true, true, true, true, false, false, false, false, false, false, false] rfl rfl (any_of HT_.out (by kernel_rfl)) (fun _ _ _ h => h) (Or.inl ⟨by rfl, ?_⟩) ?_ ?_
            rotate_left
            · intro w'
              go_simp
              with_reducible rfl
            rotate_left
            · simp only [Act.put, List.setIfInBounds_toArray, List.set_cons_zero, List.set_cons_succ, i64_w, i32_w]
              rfl
            refine pure_ (i := 11) (N := some 30) (v := ?_) (a' := ?_) #[true, true, true, true, true, true, true, true, true, false, false, true, false, false, false, false] rfl rfl (any_of HT_.out (by kernel_rfl)) (fun _ _ _ h => h) (Or.inl ⟨by rfl, ?_⟩) ?_ ?_
            rotate_left
            · intro w'
              go_simp
              with_reducible rfl
            rotate_left
            · simp only [Act.put, List.setIfInBounds_toArray, List.set_cons_zero, List.set_cons_succ, i64_w, i32_w]
              rfl
            refine take_ (i := 12) (N := some 31) (v := ?_) (a' := ?_) #[true, true, true, true, true, true, true, true, true, false, false, true, true, false, false, false] rfl rfl (take_ofW HT_.out HW_.out (by kernel_rfl)) (fun _ _ _ h => h) (Or.inl ⟨by rfl, ?_⟩) hHeld ?_ ?_
            rotate_left
            · intro w' s0
              go_simp
              with_reducible rfl
            rotate_left
            · simp only [Act.put, List.setIfInBounds_toArray, List.set_cons_zero, List.set_cons_succ, i64_w, i32_w]
              rfl
            refine one_ (i := 9) (N := some 28) #[true, true, true, true, true, true, true, true, true, true, false, true, true, false, false, false] rfl rfl (one_of HT_.out (by kernel_rfl)) (by decide) (fun K hK => ?_)
            refine goes_ Try.func94 (by kernel_rfl) rfl #[.slice Ao20 t323.length co20] (by rfl) rfl rfl (by (try simp only [List.map_toArray, List.map_cons, List.map_nil]); first | done | rfl | (simp only [List.length_drop, List.length_take]; rfl)) ?_
            with_reducible refine (impl_trieOf.calls _ _ t323 t327 _ ?side1 ?side2 A15.out).mono ?_
            (case side1 => repeat (first | exact (Kd.R_reads' HO325.out).2.2 | (with_reducible refine Kd.C_alloc ?_ _) | (with_reducible refine Kd.C_drewN ?_ _) | (with_reducible refine Kd.C_drew ?_)))
            (case side2 => exact (Kd.R_reads' HO325.out).2.1)
            rintro e w21 ⟨v328, rfl, ho0, hb⟩
            refine ⟨_, rfl, ?_⟩
            have n0_ := Aside0.mk (Kd.R_below (by (with_reducible repeat (first | apply Kd.R_alloc | apply Kd.R_drewN | apply Kd.R_drew)); exact HO325.out) hb)
            have n1_ := Aside0.mk (Kd.R_lower ho0 (below_size (by repeat (first | (with_reducible first | exact HB.out | apply below_alloc | apply pw_below_drewN | apply below_drew1 | refine below_set ?_ GE317.out) | exact HB.out))))
            have n2_ := Aside0.mk (blk_below (g := gb317) (o := .cells #[.slice A0_0 l0_0.length c0_0] 30 (0, 0)) (by (with_reducible repeat (first | refine blk_drewN ?_ _ | refine blk_drew ?_ | refine blk_alloc ?_ _)); exact BK317.out) hb)
            have n3_ := Aside0.mk (below_step (by repeat (first | (with_reducible first | exact HB.out | apply below_alloc | apply pw_below_drewN | apply below_drew1 | refine below_set ?_ GE317.out) | exact HB.out)) hb)
            clear HO325
            clear BK317
            clear HB
            have HO325 := n0_
            have HO329 := n1_
            have BK317 := n2_
            have HB := n3_
            clear n0_ n1_ n2_ n3_
            (try clear hb)
            (try clear hb2)
            (try clear hk)
            (try clear hi)
            (try clear ho0)
            obtain ⟨Ao22, co22, eo22⟩ := Kd.R_slice HO329.out
            (first | subst eo22 | (injection eo22 with f1_ f2_ f3_; have f4_ := f1_.symm; have f5_ := f3_.symm; clear f1_ f2_ f3_; subst f4_; subst f5_))
            refine hK.out _ _ ((blk_cell BK317.out 0).trans rfl) (fun hHeld => ?_)
            clear hK K
            refine norm_ (a' := ?_) ?_ ?_
            rotate_left
            · show Act.put _ (some 28) _ = _
              simp only [Act.put, List.setIfInBounds_toArray, List.set_cons_zero, List.set_cons_succ, i64_w, i32_w]
              rfl
            refine pure_ (i := 10) (N := some 29) (v := ?_) (a' := ?_) #[true, true, true, true, true, true, true, true, true, true, true, true, true, false, false, false] rfl rfl (any_of HT_.out (by kernel_rfl)) (fun _ _ _ h => h) (Or.inl ⟨by rfl, ?_⟩) ?_ ?_
            rotate_left
            · intro w'
              go_simp
              with_reducible rfl
            rotate_left
            · simp only [Act.put, List.setIfInBounds_toArray, List.set_cons_zero, List.set_cons_succ, i64_w, i32_w]
              rfl
            refine one_ (i := 13) (N := some 32) #[true, true, true, true, true, true, true, true, true, true, true, true, true, true, false, false] rfl rfl (one_of HT_.out (by kernel_rfl)) (by decide) (fun K hK => ?_)
            refine goes_ Try.func93 (by kernel_rfl) rfl #[.slice Ao22 t327.length co22, .slice A0_0 l0_0.length c0_0] (by rfl) rfl rfl (by (try simp only [List.map_toArray, List.map_cons, List.map_nil]); first | done | rfl | (simp only [List.length_drop, List.length_take]; rfl)) ?_
            with_reducible refine (impl_Node.calls kj2 _ _ t327 _ _ l0_0 t330 _ ?side1 ?side2 ?side3 ?side4 A16.out).mono ?_
            (case side1 => repeat (first | exact (Kd.R_reads' HO329.out).2.2 | (with_reducible refine Kd.C_alloc ?_ _) | (with_reducible refine Kd.C_drewN ?_ _) | (with_reducible refine Kd.C_drew ?_)))
            (case side2 => exact (Kd.R_reads' HO329.out).2.1)
            (case side3 => repeat (first | exact (Kd.C_below HR0_0.out HB.out) | (with_reducible refine Kd.C_alloc ?_ _) | (with_reducible refine Kd.C_drewN ?_ _) | (with_reducible refine Kd.C_drew ?_)))
            (case side4 => exact HC0_0.out)
            rintro e w' ⟨rfl, ⟨nd, rfl⟩⟩
            refine ⟨_, rfl, ?_⟩
            refine hK.out _ _ ((blk_cell BK317.out 0).trans rfl) (fun hHeld => ?_)
            clear hK K
            refine norm_ (a' := ?_) ?_ ?_
            rotate_left
            · show Act.put _ (some 32) _ = _
              simp only [Act.put, List.setIfInBounds_toArray, List.set_cons_zero, List.set_cons_succ, i64_w, i32_w]
              rfl
            refine pure_ (i := 14) (N := some 33) (v := ?_) (a' := ?_) #[true, true, true, true, true, true, true, true, true, true, true, true, true, true, true, false] rfl rfl (any_of HT_.out (by kernel_rfl)) (fun _ _ _ h => h) (Or.inl ⟨by rfl, ?_⟩) ?_ ?_
            rotate_left
            · intro w'
              go_simp
              with_reducible rfl
            rotate_left
            · simp only [Act.put, List.setIfInBounds_toArray, List.set_cons_zero, List.set_cons_succ, i64_w, i32_w]
              rfl
            refine pure_ (i := 15) (N := some 2) (v := ?_) (a' := ?_) #[true, true, true, true, true, true, true, true, true, true, true, true, true, true, true, true] rfl rfl (any_of HT_.out (by kernel_rfl)) (fun _ _ _ h => h) (Or.inl ⟨by rfl, ?_⟩) ?_ ?_
            rotate_left
            · intro w'
              go_simp
              with_reducible rfl
            rotate_left
            · simp only [Act.put, List.setIfInBounds_toArray, List.set_cons_zero, List.set_cons_succ, i64_w, i32_w]
              rfl
            refine done_ (done_of HT_.out (by kernel_rfl)) ?_
            try go_wp2
            go_ret
            exact ⟨by first | rfl | (simp [errW_none, errW_some] <;> rfl) | (simp [*, errW_none, errW_some] <;> rfl), by repeat (first | (with_reducible first | exact HB.out | apply below_alloc | apply pw_below_drewN | apply below_drew1 | refine below_set ?_ GE317.out) | exact HB.out)⟩
          · replace c14 := Bool.eq_false_iff.mpr c14
            subst c14
            have H1 : (some false) = some r := by rw [if_neg (show ¬ (false = true) by decide)] at H; exact H
            clear H
            have H := H1
            clear H1
            obtain rfl := Option.some.inj H
            have hcz23_0 : wc.cell? ⟨gb317, 0, none⟩ = some (.slice A0_0 l0_0.length c0_0) := (blk_cell BK317.out 0).trans rfl
            have hfz23_0 := blk_frozen BK317.out 0
            try go_wp2_with (first | ((with_reducible refine gate_callee (f := 57) rfl ?_); refine goesL_ (some 18) rfl rfl Try.func57 (by kernel_rfl) rfl #[.agg #[.slice A0_0 l0_0.length c0_0]] rfl (by (try simp only [List.map_toArray, List.map_cons, List.map_nil]); first | done | rfl | (simp only [List.length_drop, List.length_take]; rfl)) ?_; (with_reducible refine (impl_Trie_words.calls kj2 _ _ l0_0 t323 _ ?side1 ?side2 A11.out).mono ?_); (case side1 => repeat (first | exact (Kd.C_below HR0_0.out HB.out) | (with_reducible refine Kd.C_alloc ?_ _) | (with_reducible refine Kd.C_drewN ?_ _) | (with_reducible refine Kd.C_drew ?_))); (case side2 => exact HC0_0.out); rintro e w24 ⟨v324, rfl, ho0, hb⟩; refine ⟨_, rfl, ?_⟩; have n0_ := Aside0.mk (Kd.R_lower ho0 (below_size (by repeat (first | (with_reducible first | exact HB.out | apply below_alloc | apply pw_below_drewN | apply below_drew1 | refine below_set ?_ GE317.out) | exact HB.out)))); have n1_ := Aside0.mk (blk_below (g := gb317) (o := .cells #[.slice A0_0 l0_0.length c0_0] 30 (0, 0)) (by (with_reducible repeat (first | refine blk_drewN ?_ _ | refine blk_drew ?_ | refine blk_alloc ?_ _)); exact BK317.out) hb); have n2_ := Aside0.mk (below_step (by repeat (first | (with_reducible first | exact HB.out | apply below_alloc | apply pw_below_drewN | apply below_drew1 | refine below_set ?_ GE317.out) | exact HB.out)) hb); clear BK317; clear HB; have HO325 := n0_; have BK317 := n1_; have HB := n2_; clear n0_ n1_ n2_; (try clear hb); (try clear hb2); (try clear hk); (try clear hi); (try clear ho0)))
            have n0_ := Aside0.mk (Kd.R_drew HO325.out)
            have n1_ := Aside0.mk (blk_drew BK317.out)
            have n2_ := Aside0.mk (below_drew1 HB.out)
            clear HO325
            clear BK317
            clear HB
            have HO325 := n0_
            have BK317 := n1_
            have HB := n2_
            clear n0_ n1_ n2_
            obtain ⟨Ao26, co26, eo26⟩ := Kd.R_slice HO325.out
            (first | subst eo26 | (injection eo26 with f1_ f2_ f3_; have f4_ := f1_.symm; have f5_ := f3_.symm; clear f1_ f2_ f3_; subst f4_; subst f5_))
            refine start_ (n := 16) (S := fun w' => True) (ds := []) #[false, false, false, false, false, false, false, false, false, false, false, false, false, false, false, false] (by kernel_rfl) rfl rfl trivial (fun hHeld => ?_); refine with_tabW impl_isTrie.tab5 impl_isTrie.bits5 (fun HT_ HW_ => ?_)
            generalize w24.drew = w25 at HO325 BK317 HB hHeld ⊢
            refine pure_ (i := 0) (N := some 19) (v := ?_) (a' := ?_) #[true, false, false, false, false, false, false, false, false, false, false, false, false, false, false, false] rfl rfl (any_of HT_.out (by kernel_rfl)) (fun _ _ _ h => h) (Or.inl ⟨by rfl, ?_⟩) ?_ ?_
            rotate_left
            · intro w'
              go_simp
              with_reducible rfl
            rotate_left
            · simp only [Act.put, List.setIfInBounds_toArray, List.set_cons_zero, List.set_cons_succ, i64_w, i32_w]
              rfl
            refine pure_ (i := 1) (N := some 20) (v := ?_) (a' := ?_) #[true, true, false, false, false, false, false, false, false, false, false, false, false, false, false, false] rfl rfl (any_of HT_.out (by kernel_rfl)) (fun _ _ _ h => h) (Or.inl ⟨by rfl, ?_⟩) ?_ ?_
            rotate_left
            · intro w'
              go_simp
              with_reducible rfl
            rotate_left
            · simp only [Act.put, List.setIfInBounds_toArray, List.set_cons_zero, List.set_cons_succ, i64_w, i32_w]
              rfl
            refine pure_ (i := 2) (N := some 21) (v := ?_) (a' := ?_) #[true, true, true, false, false, false, false, false, false, false, false, false, false, false, false, false] rfl rfl (any_of HT_.out (by kernel_rfl)) (fun _ _ _ h => h) (Or.inl ⟨by rfl, ?_⟩) ?_ ?_
            rotate_left
            · intro w'
              go_simp
              with_reducible rfl
            rotate_left
            · simp only [Act.put, List.setIfInBounds_toArray, List.set_cons_zero, List.set_cons_succ, i64_w, i32_w]
              rfl
            refine pure_ (i := 3) (N := some 22) (v := ?_) (a' := ?_) #[true, true, true, true, false, false, false, false, false, false, false, false, false, false, false, false] rfl rfl (any_of HT_.out (by kernel_rfl)) (fun _ _ _ h => h) (Or.inl ⟨by rfl, ?_⟩) ?_ ?_
            rotate_left
            · intro w'
              go_simp
              with_reducible rfl
            rotate_left
            · simp only [Act.put, List.setIfInBounds_toArray, List.set_cons_zero, List.set_cons_succ, i64_w, i32_w]
              rfl
            refine pure_ (i := 4) (N := some 23) (v := ?_) (a' := ?_) #[true, true, true, true, true, false, false, false, false, false, false, false, false, false, false, false] rfl rfl (any_of HT_.out (by kernel_rfl)) (fun _ _ _ h => h) (Or.inl ⟨by rfl, ?_⟩) ?_ ?_
            rotate_left
            · intro w'
              go_simp
              with_reducible rfl
            rotate_left
            · simp only [Act.put, List.setIfInBounds_toArray, List.set_cons_zero, List.set_cons_succ, i64_w, i32_w]
              rfl
            refine one_ (i := 5) (N := some 24) #[true, true, true, true, true, true, false, false, false, false, false, false, false, false, false, false] rfl rfl (one_of HT_.out (by kernel_rfl)) (by decide) (fun K hK => ?_)
            refine goes_ Try.func92 (by kernel_rfl) rfl #[.slice Ao26 t323.length co26] (by rfl) rfl rfl (by (try simp only [List.map_toArray, List.map_cons, List.map_nil]); first | done | rfl | (simp only [List.length_drop, List.length_take]; rfl)) ?_
            with_reducible refine (slices_IsSorted_string_string.calls kj2 _ _ t323 false _ ?side1 ?side2 A13.out).mono ?_
            (case side1 => repeat (first | exact (Kd.R_reads' HO325.out).2.2 | (with_reducible refine Kd.C_alloc ?_ _) | (with_reducible refine Kd.C_drewN ?_ _) | (with_reducible refine Kd.C_drew ?_)))
            (case side2 => exact (Kd.R_reads' HO325.out).2.1)
            rintro e w' ⟨rfl, ⟨nd, rfl⟩⟩
            refine ⟨_, rfl, ?_⟩
            refine hK.out _ _ trivial (fun hHeld => ?_)
            clear hK K
            refine norm_ (a' := ?_) ?_ ?_
            rotate_left
            · show Act.put _ (some 24) _ = _
              simp only [Act.put, List.setIfInBounds_toArray, List.set_cons_zero, List.set_cons_succ, i64_w, i32_w]
              rfl
            refine pure_ (i := 6) (N := some 25) (v := ?_) (a' := ?_) #[true, true, true, true, true, true, true, false, false, false, false, false, false, false, false, false] rfl rfl (any_of HT_.out (by kernel_rfl)) (fun _ _ _ h => h) (Or.inl ⟨by rfl, ?_⟩) ?_ ?_
            rotate_left
            · intro w'
              go_simp
              with_reducible rfl
            rotate_left
            · simp only [Act.put, List.setIfInBounds_toArray, List.set_cons_zero, List.set_cons_succ, i64_w, i32_w]
              rfl
            refine pure_ (i := 7) (N := some 26) (v := ?_) (a' := ?_) #[true, true, true, true, true, true, true, true, false, false, false, false, false, false, false, false] rfl rfl (any_of HT_.out (by kernel_rfl)) (fun _ _ _ h => h) (Or.inl ⟨by rfl, ?_⟩) ?_ ?_
            rotate_left
            · intro w'
              go_simp
              with_reducible rfl
            rotate_left
            · simp only [Act.put, List.setIfInBounds_toArray, List.set_cons_zero, List.set_cons_succ, i64_w, i32_w]
              rfl
            refine pure_ (i := 8) (N := some 27) (v := undef) (a' := ?_) #[true, true, true, true, true, true, true, true, true, false, false, false, false, false, false, false] rfl rfl (any_of HT_.out (by kernel_rfl)) (fun _ _ _ h => h) (Or.inr ⟨by rfl, rfl⟩) ?_ ?_
            rotate_left
            · simp only [Act.put, List.setIfInBounds_toArray, List.set_cons_zero, List.set_cons_succ, i64_w, i32_w]
              rfl
            refine pure_ (i := 9) (N := some 28) (v := undef) (a' := ?_) #[true, true, true, true, true, true, true, true, true, true, false, false, false, false, false, false] rfl rfl (any_of HT_.out (by kernel_rfl)) (fun _ _ _ h => h) (Or.inr ⟨by rfl, rfl⟩) ?_ ?_
            rotate_left
            · simp only [Act.put, List.setIfInBounds_toArray, List.set_cons_zero, List.set_cons_succ, i64_w, i32_w]
              rfl
            refine pure_ (i := 10) (N := some 29) (v := undef) (a' := ?_) #[true, true, true, true, true, true, true, true, true, true, true, false, false, false, false, false] rfl rfl (any_of HT_.out (by kernel_rfl)) (fun _ _ _ h => h) (Or.inr ⟨by rfl, rfl⟩) ?_ ?_
            rotate_left
            · simp only [Act.put, List.setIfInBounds_toArray, List.set_cons_zero, List.set_cons_succ, i64_w, i32_w]
              rfl
            refine pure_ (i := 11) (N := some 30) (v := undef) (a' := ?_) #[true, true, true, true, true, true, true, true, true, true, true, true, false, false, false, false] rfl rfl (any_of HT_.out (by kernel_rfl)) (fun _ _ _ h => h) (Or.inr ⟨by rfl, rfl⟩) ?_ ?_
            rotate_left
            · simp only [Act.put, List.setIfInBounds_toArray, List.set_cons_zero, List.set_cons_succ, i64_w, i32_w]
              rfl
            refine pure_ (i := 12) (N := some 31) (v := undef) (a' := ?_) #[true, true, true, true, true, true, true, true, true, true, true, true, true, false, false, false] rfl rfl (any_of HT_.out (by kernel_rfl)) (fun _ _ _ h => h) (Or.inr ⟨by rfl, rfl⟩) ?_ ?_
            rotate_left
            · simp only [Act.put, List.setIfInBounds_toArray, List.set_cons_zero, List.set_cons_succ, i64_w, i32_w]
              rfl
            refine pure_ (i := 13) (N := some 32) (v := undef) (a' := ?_) #[true, true, true, true, true, true, true, true, true, true, true, true, true, true, false, false] rfl rfl (any_of HT_.out (by kernel_rfl)) (fun _ _ _ h => h) (Or.inr ⟨by rfl, rfl⟩) ?_ ?_
            rotate_left
            · simp only [Act.put, List.setIfInBounds_toArray, List.set_cons_zero, List.set_cons_succ, i64_w, i32_w]
              rfl
            refine pure_ (i := 14) (N := some 33) (v := ?_) (a' := ?_) #[true, true, true, true, true, true, true, true, true, true, true, true, true, true, true, false] rfl rfl (any_of HT_.out (by kernel_rfl)) (fun _ _ _ h => h) (Or.inl ⟨by rfl, ?_⟩) ?_ ?_
            rotate_left
            · intro w'
              go_simp
              with_reducible rfl
            rotate_left
            · simp only [Act.put, List.setIfInBounds_toArray, List.set_cons_zero, List.set_cons_succ, i64_w, i32_w]
              rfl
            refine pure_ (i := 15) (N := some 2) (v := ?_) (a' := ?_) #[true, true, true, true, true, true, true, true, true, true, true, true, true, true, true, true] rfl rfl (any_of HT_.out (by kernel_rfl)) (fun _ _ _ h => h) (Or.inl ⟨by rfl, ?_⟩) ?_ ?_
            rotate_left
            · intro w'
              go_simp
              with_reducible rfl
            rotate_left
            · simp only [Act.put, List.setIfInBounds_toArray, List.set_cons_zero, List.set_cons_succ, i64_w, i32_w]
              rfl
            refine done_ (done_of HT_.out (by kernel_rfl)) ?_
            try go_wp2
            go_ret
            exact ⟨by first | rfl | (simp [errW_none, errW_some] <;> rfl) | (simp [*, errW_none, errW_some] <;> rfl), by repeat (first | (with_reducible first | exact HB.out | apply below_alloc | apply pw_below_drewN | apply below_drew1 | refine below_set ?_ GE317.out) | exact HB.out)⟩
        · rw [if_neg c12] at H
          have c12b0 : decide ((t323.length : Int) ≤ 40) = false := decide_eq_false c12
          have c12b1 : decide (t323.length ≤ 40) = false := decide_eq_false (by omega)
          clear c12
          obtain rfl := Option.some.inj H
          have hcz27_0 : wc.cell? ⟨gb317, 0, none⟩ = some (.slice A0_0 l0_0.length c0_0) := (blk_cell BK317.out 0).trans rfl
          have hfz27_0 := blk_frozen BK317.out 0
          try go_wp2_with (first | ((with_reducible refine gate_callee (f := 57) rfl ?_); refine goesL_ (some 18) rfl rfl Try.func57 (by kernel_rfl) rfl #[.agg #[.slice A0_0 l0_0.length c0_0]] rfl (by (try simp only [List.map_toArray, List.map_cons, List.map_nil]); first | done | rfl | (simp only [List.length_drop, List.length_take]; rfl)) ?_; (with_reducible refine (impl_Trie_words.calls kj2 _ _ l0_0 t323 _ ?side1 ?side2 A11.out).mono ?_); (case side1 => repeat (first | exact (Kd.C_below HR0_0.out HB.out) | (with_reducible refine Kd.C_alloc ?_ _) | (with_reducible refine Kd.C_drewN ?_ _) | (with_reducible refine Kd.C_drew ?_))); (case side2 => exact HC0_0.out); rintro e w28 ⟨v324, rfl, ho0, hb⟩; refine ⟨_, rfl, ?_⟩; have n0_ := Aside0.mk (Kd.R_lower ho0 (below_size (by repeat (first | (with_reducible first | exact HB.out | apply below_alloc | apply pw_below_drewN | apply below_drew1 | refine below_set ?_ GE317.out) | exact HB.out)))); have n1_ := Aside0.mk (blk_below (g := gb317) (o := .cells #[.slice A0_0 l0_0.length c0_0] 30 (0, 0)) (by (with_reducible repeat (first | refine blk_drewN ?_ _ | refine blk_drew ?_ | refine blk_alloc ?_ _)); exact BK317.out) hb); have n2_ := Aside0.mk (below_step (by repeat (first | (with_reducible first | exact HB.out | apply below_alloc | apply pw_below_drewN | apply below_drew1 | refine below_set ?_ GE317.out) | exact HB.out)) hb); clear BK317; clear HB; have HO325 := n0_; have BK317 := n1_; have HB := n2_; clear n0_ n1_ n2_; (try clear hb); (try clear hb2); (try clear hk); (try clear hi); (try clear ho0)))
          have n0_ := Aside0.mk (Kd.R_drew HO325.out)
          have n1_ := Aside0.mk (blk_drew BK317.out)
          have n2_ := Aside0.mk (below_drew1 HB.out)
          clear HO325
          clear BK317
          clear HB
          have HO325 := n0_
          have BK317 := n1_
          have HB := n2_
          clear n0_ n1_ n2_
          obtain ⟨Ao30, co30, eo30⟩ := Kd.R_slice HO325.out
          (first | subst eo30 | (injection eo30 with f1_ f2_ f3_; have f4_ := f1_.symm; have f5_ := f3_.symm; clear f1_ f2_ f3_; subst f4_; subst f5_))
          refine start_ (n := 16) (S := fun w' => True) (ds := []) #[false, false, false, false, false, false, false, false, false, false, false, false, false, false, false, false] (by kernel_rfl) rfl rfl trivial (fun hHeld => ?_); refine with_tabW impl_isTrie.tab5 impl_isTrie.bits5 (fun HT_ HW_ => ?_)
          generalize w28.drew = w29 at HO325 BK317 HB hHeld ⊢
          refine pure_ (i := 0) (N := some 19) (v := ?_) (a' := ?_) #[true, false, false, false, false, false, false, false, false, false, false, false, false, false, false, false] rfl rfl (any_of HT_.out (by kernel_rfl)) (fun _ _ _ h => h) (Or.inl ⟨by rfl, ?_⟩) ?_ ?_
          rotate_left
          · intro w'
            go_simp
            with_reducible rfl
          rotate_left
          · simp only [Act.put, List.setIfInBounds_toArray, List.set_cons_zero, List.set_cons_succ, i64_w, i32_w]
            rfl
          refine pure_ (i := 1) (N := some 20) (v := ?_) (a' := ?_) #[true, true, false, false, false, false, false, false, false, false, false, false, false, false, false, false] rfl rfl (any_of HT_.out (by kernel_rfl)) (fun _ _ _ h => h) (Or.inl ⟨by rfl, ?_⟩) ?_ ?_
          rotate_left
          · intro w'
            go_simp
            with_reducible rfl
          rotate_left
          · simp only [Act.put, List.setIfInBounds_toArray, List.set_cons_zero, List.set_cons_succ, i64_w, i32_w]
            rfl
          refine pure_ (i := 2) (N := some 21) (v := ?_) (a' := ?_) #[true, true, true, false, false, false, false, false, false, false, false, false, false, false, false, false] rfl rfl (any_of HT_.out (by kernel_rfl)) (fun _ _ _ h => h) (Or.inl ⟨by rfl, ?_⟩) ?_ ?_
          rotate_left
          · intro w'
            go_simp
            with_reducible rfl
          rotate_left
          · simp only [Act.put, List.setIfInBounds_toArray, List.set_cons_zero, List.set_cons_succ, i64_w, i32_w]
            rfl
          refine pure_ (i := 3) (N := some 22) (v := ?_) (a' := ?_) #[true, true, true, true, false, false, false, false, false, false, false, false, false, false, false, false] rfl rfl (any_of HT_.out (by kernel_rfl)) (fun _ _ _ h => h) (Or.inl ⟨by rfl, ?_⟩) ?_ ?_
          rotate_left
          · intro w'
            go_simp
            with_reducible rfl
          rotate_left
          · simp only [Act.put, List.setIfInBounds_toArray, List.set_cons_zero, List.set_cons_succ, i64_w, i32_w]
            rfl
          refine pure_ (i := 4) (N := some 23) (v := undef) (a' := ?_) #[true, true, true, true, true, false, false, false, false, false, false, false, false, false, false, false] rfl rfl (any_of HT_.out (by kernel_rfl)) (fun _ _ _ h => h) (Or.inr ⟨by rfl, rfl⟩) ?_ ?_
          rotate_left
          · simp only [Act.put, List.setIfInBounds_toArray, List.set_cons_zero, List.set_cons_succ, i64_w, i32_w]
            rfl
          refine pure_ (i := 5) (N := some 24) (v := undef) (a' := ?_) #[true, true, true, true, true, true, false, false, false, false, false, false, false, false, false, false] rfl rfl (any_of HT_.out (by kernel_rfl)) (fun _ _ _ h => h) (Or.inr ⟨by rfl, rfl⟩) ?_ ?_
          rotate_left
          · simp only [Act.put, List.setIfInBounds_toArray, List.set_cons_zero, List.set_cons_succ, i64_w, i32_w]
            rfl
          refine pure_ (i := 6) (N := some 25) (v := ?_) (a' := ?_) #[true, true, true, true, true, true, true, false, false, false, false, false, false, false, false, false] rfl rfl (any_of HT_.out (by kernel_rfl)) (fun _ _ _ h => h) (Or.inl ⟨by rfl, ?_⟩) ?_ ?_
          rotate_left
          · intro w'
            go_simp
            with_reducible rfl
          rotate_left
          · simp only [Act.put, List.setIfInBounds_toArray, List.set_cons_zero, List.set_cons_succ, i64_w, i32_w]
            rfl
          refine pure_ (i := 7) (N := some 26) (v := ?_) (a' := ?_) #[true, true, true, true, true, true, true, true, false, false, false, false, false, false, false, false] rfl rfl (any_of HT_.out (by kernel_rfl)) (fun _ _ _ h => h) (Or.inl ⟨by rfl, ?_⟩) ?_ ?_
          rotate_left
          · intro w'
            go_simp
            with_reducible rfl
          rotate_left
          · simp only [Act.put, List.setIfInBounds_toArray, List.set_cons_zero, List.set_cons_succ, i64_w, i32_w]
            rfl
          refine pure_ (i := 8) (N := some 27) (v := undef) (a' := ?_) #[true, true, true, true, true, true, true, true, true, false, false, false, false, false, false, false] rfl rfl (any_of HT_.out (by kernel_rfl)) (fun _ _ _ h => h) (Or.inr ⟨by rfl, rfl⟩) ?_ ?_
          rotate_left
          · simp only [Act.put, List.setIfInBounds_toArray, List.set_cons_zero, List.set_cons_succ, i64_w, i32_w]
            rfl
          refine pure_ (i := 9) (N := some 28) (v := undef) (a' := ?_) #[true, true, true, true, true, true, true, true, true, true, false, false, false, false, false, false] rfl rfl (any_of HT_.out (by kernel_rfl)) (fun _ _ _ h => h) (Or.inr ⟨by rfl, rfl⟩) ?_ ?_
          rotate_left
          · simp only [Act.put, List.setIfInBounds_toArray, List.set_cons_zero, List.set_cons_succ, i64_w, i32_w]
            rfl
          refine pure_ (i := 10) (N := some 29) (v := undef) (a' := ?_) #[true, true, true, true, true, true, true, true, true, true, true, false, false, false, false, false] rfl rfl (any_of HT_.out (by kernel_rfl)) (fun _ _ _ h => h) (Or.inr ⟨by rfl, rfl⟩) ?_ ?_
          rotate_left
          · simp only [Act.put, List.setIfInBounds_toArray, List.set_cons_zero, List.set_cons_succ, i64_w, i32_w]
            rfl
          refine pure_ (i := 11) (N := some 30) (v := undef) (a' := ?_) #[true, true, true, true, true, true, true, true, true, true, true, true, false, false, false, false] rfl rfl (any_of HT_.out (by kernel_rfl)) (fun _ _ _ h => h) (Or.inr ⟨by rfl, rfl⟩) ?_ ?_
          rotate_left
          · simp only [Act.put, List.setIfInBounds_toArray, List.set_cons_zero, List.set_cons_succ, i64_w, i32_w]
            rfl
          refine pure_ (i := 12) (N := some 31) (v := undef) (a' := ?_) #[true, true, true, true, true, true, true, true, true, true, true, true, true, false, false, false] rfl rfl (any_of HT_.out (by kernel_rfl)) (fun _ _ _ h => h) (Or.inr ⟨by rfl, rfl⟩) ?_ ?_
          rotate_left
          · simp only [Act.put, List.setIfInBounds_toArray, List.set_cons_zero, List.set_cons_succ, i64_w, i32_w]
            rfl
          refine pure_ (i := 13) (N := some 32) (v := undef) (a' := ?_) #[true, true, true, true, true, true, true, true, true, true, true, true, true, true, false, false] rfl rfl (any_of HT_.out (by kernel_rfl)) (fun _ _ _ h => h) (Or.inr ⟨by rfl, rfl⟩) ?_ ?_
          rotate_left
          · simp only [Act.put, List.setIfInBounds_toArray, List.set_cons_zero, List.set_cons_succ, i64_w, i32_w]
            rfl
          refine pure_ (i := 14) (N := some 33) (v := ?_) (a' := ?_) #[true, true, true, true, true, true, true, true, true, true, true, true, true, true, true, false] rfl rfl (any_of HT_.out (by kernel_rfl)) (fun _ _ _ h => h) (Or.inl ⟨by rfl, ?_⟩) ?_ ?_
          rotate_left
          · intro w'
            go_simp
            with_reducible rfl
          rotate_left
          · simp only [Act.put, List.setIfInBounds_toArray, List.set_cons_zero, List.set_cons_succ, i64_w, i32_w]
            rfl
          refine pure_ (i := 15) (N := some 2) (v := ?_) (a' := ?_) #[true, true, true, true, true, true, true, true, true, true, true, true, true, true, true, true] rfl rfl (any_of HT_.out (by kernel_rfl)) (fun _ _ _ h => h) (Or.inl ⟨by rfl, ?_⟩) ?_ ?_
          rotate_left
          · intro w'
            go_simp
            with_reducible rfl
          rotate_left
          · simp only [Act.put, List.setIfInBounds_toArray, List.set_cons_zero, List.set_cons_succ, i64_w, i32_w]
            rfl
          refine done_ (done_of HT_.out (by kernel_rfl)) ?_
          try go_wp2
          go_ret
          exact ⟨by first | rfl | (simp [errW_none, errW_some] <;> rfl) | (simp [*, errW_none, errW_some] <;> rfl), by repeat (first | (with_reducible first | exact HB.out | apply below_alloc | apply pw_below_drewN | apply below_drew1 | refine below_set ?_ GE317.out) | exact HB.out)⟩
end Go.Proofs.Ytbedgcngoddkdaa.Q
namespace Go.Proofs.Ytbedgcngoddkdaa.Q
open Go.RowKit Go.Proofs.YtbedgcngoddkdaaW.PrintWords Go.Proofs.YtbedgcngoddkdaaW.PrintLast Go.Proofs.YtbedgcngoddkdaaW.PrintMore
attribute [local go_sem] run_field_23 run_field_24 run_field_29 run_field_30 run_field_51 run_field_52 isSome_setCell max2_int min2_int max_two min_two max_three min_three max_four min_four   -- for this text's walks alone
set_option linter.unusedVariables false
set_option linter.unusedSimpArgs false
def laws_eqNode.f (a0_0 : Int) (a0_1 : Int) (a0_2 : Bool) (a1_0 : Int) (a1_1 : Int) (a1_2 : Bool) : Option (Bool) := if a0_0 = a1_0 then (if a0_1 = a1_1 then (if (a0_2 != a1_2) = true then (some false) else (some true)) else (some false)) else (some false)
set_option maxHeartbeats 8000000 in
set_option maxRecDepth 100000 in
theorem laws_eqNode.calls (a0_0 : Int) (a0_1 : Int) (a0_2 : Bool) (a1_0 : Int) (a1_1 : Int) (a1_2 : Bool) (r : Bool) (w : World) (h : laws_eqNode.f a0_0 a0_1 a0_2 a1_0 a1_1 a1_2 = some r) :
    Calls Try.prog 95 #[.agg #[.int .i64 a0_0, .int .i64 a0_1, .bool a0_2], .agg #[.int .i64 a1_0, .int .i64 a1_1, .bool a1_2]] w fun e w' => e = .returned (.bool r) ∧ Below w.heap.size w w' := by
  have hu86 := Try.underlying86
  have HB := Aside0.mk (Below.refl w.heap.size w)
  have H : (if a0_0 = a1_0 then (if a0_1 = a1_1 then (if (a0_2 != a1_2) = true then (some false) else (some true)) else (some false)) else (some false)) = some r := h
  clear h
  by_cases c3 : a0_0 = a1_0
  · rw [if_pos c3] at H
    have c3b0 : (a0_0 == a1_0) = true := beq_iff_eq.mpr c3
    have c3b1 : (a0_0 != a1_0) = false := bne_eq_false_iff_eq.mpr c3
    clear c3
    by_cases c4 : a0_1 = a1_1
    · rw [if_pos c4] at H
      have c4b0 : (a0_1 == a1_1) = true := beq_iff_eq.mpr c4
      have c4b1 : (a0_1 != a1_1) = false := bne_eq_false_iff_eq.mpr c4
      clear c4
      by_cases c5 : (a0_2 != a1_2) = true
      · rw [if_pos c5] at H
        have c5b0 : (a0_2 != a1_2) = true := c5
        (try (have c5b1 : decide (a0_2 = a1_2) = false := by simpa using c5))
        (try (have c5b2 : (a0_2 == a1_2) = false := by simpa using c5))
        (try (have c5b3 : ¬ (a0_2 = a1_2) := by simpa using c5))
        clear c5
        obtain rfl := Option.some.inj H
        go_enter Try.func95, Try.ntmps95
        go_wp2_with (first | ((with_reducible refine gate_dst (N := 2) rfl ?_); refine box_event ?hg (N := 2) ?hd (cs := #[.int .i64 a0_0, .int .i64 a0_1, .bool a0_2]) (t := 86) ?hr ?_; (case hd => rfl); (case hg => rfl); (case hr => first | (go_simp; done) | (go_simp; rfl)); intro gb347 hg w6 hbox hb; have n0_ := Aside0.mk (below_step (by repeat (first | (with_reducible first | exact HB.out | apply below_alloc | apply pw_below_drewN | apply below_drew1) | exact HB.out)) hb); have n1_ := Aside0.mk (hbox); have n2_ := Aside0.mk ((by rw [hg]; exact (below_size (by repeat (first | (with_reducible first | exact HB.out | apply below_alloc | apply pw_below_drewN | apply below_drew1) | exact HB.out))) : w.heap.size ≤ gb347)); have n3_ := Aside0.mk ((by rw [hg]; exact (below_size (by repeat (first | (with_reducible first | exact HB.out | apply below_alloc | apply pw_below_drewN | apply below_drew1) | exact HB.out))) : w.heap.size ≤ gb347)); clear HB; have HB := n0_; have BK347 := n1_; have GW347 := n2_; have GE347 := n3_; clear n0_ n1_ n2_ n3_; clear hb hbox hg) | ((with_reducible refine gate_dst (N := 3) rfl ?_); refine box_event ?hg (N := 3) ?hd (cs := #[.int .i64 a1_0, .int .i64 a1_1, .bool a1_2]) (t := 86) ?hr ?_; (case hd => rfl); (case hg => rfl); (case hr => first | (go_simp; done) | (go_simp; rfl)); intro gb348 hg w7 hbox hb; have n0_ := Aside0.mk (blk_below (g := gb347) (o := .cells #[.int .i64 a0_0, .int .i64 a0_1, .bool a0_2] 86 (0, 0)) (by (with_reducible repeat (first | refine blk_drewN ?_ _ | refine blk_drew ?_ | refine blk_alloc ?_ _)); exact BK347.out) hb); have n1_ := Aside0.mk (below_step (by repeat (first | (with_reducible first | exact HB.out | apply below_alloc | apply pw_below_drewN | apply below_drew1 | refine below_set ?_ GE347.out) | exact HB.out)) hb); have n2_ := Aside0.mk (hbox); have n3_ := Aside0.mk ((by rw [hg]; exact (below_size (by repeat (first | (with_reducible first | exact HB.out | apply below_alloc | apply pw_below_drewN | apply below_drew1 | refine below_set ?_ GE347.out) | exact HB.out))) : w.heap.size ≤ gb348)); have n4_ := Aside0.mk ((by rw [hg]; exact (below_size (by repeat (first | (with_reducible first | exact HB.out | apply below_alloc | apply pw_below_drewN | apply below_drew1 | refine below_set ?_ GE347.out) | exact HB.out))) : w.heap.size ≤ gb348)); have n5_ := Aside0.mk ((by rw [hg]; exact Nat.ne_of_lt (blk_lt (g := gb347) (o := .cells #[.int .i64 a0_0, .int .i64 a0_1, .bool a0_2] 86 (0, 0)) (by (with_reducible repeat (first | refine blk_drewN ?_ _ | refine blk_drew ?_ | refine blk_alloc ?_ _)); exact BK347.out)) : gb347 ≠ gb348)); have n6_ := Aside0.mk ((by rw [hg]; exact Nat.ne_of_gt (blk_lt (g := gb347) (o := .cells #[.int .i64 a0_0, .int .i64 a0_1, .bool a0_2] 86 (0, 0)) (by (with_reducible repeat (first | refine blk_drewN ?_ _ | refine blk_drew ?_ | refine blk_alloc ?_ _)); exact BK347.out)) : gb348 ≠ gb347)); clear BK347; clear HB; have BK347 := n0_; have HB := n1_; have BK348 := n2_; have GW348 := n3_; have GE348 := n4_; have NB347_348 := n5_; have NB348_347 := n6_; clear n0_ n1_ n2_ n3_ n4_ n5_ n6_; clear hb hbox hg; have hnb8 := NB347_348.out; have hnc8 := NB348_347.out; have hcz9_0 : w7.cell? ⟨gb347, 0, none⟩ = some (.int .i64 a0_0) := (blk_cell BK347.out 0).trans rfl; have hcz9_1 : w7.cell? ⟨gb347, 1, none⟩ = some (.int .i64 a0_1) := (blk_cell BK347.out 1).trans rfl; have hcz9_2 : w7.cell? ⟨gb347, 2, none⟩ = some (.bool a0_2) := (blk_cell BK347.out 2).trans rfl; have hfz9_0 := blk_frozen BK347.out 0; have hfz9_1 := blk_frozen BK347.out 1; have hfz9_2 := blk_frozen BK347.out 2; have hcz10_0 : w7.cell? ⟨gb348, 0, none⟩ = some (.int .i64 a1_0) := (blk_cell BK348.out 0).trans rfl; have hcz10_1 : w7.cell? ⟨gb348, 1, none⟩ = some (.int .i64 a1_1) := (blk_cell BK348.out 1).trans rfl; have hcz10_2 : w7.cell? ⟨gb348, 2, none⟩ = some (.bool a1_2) := (blk_cell BK348.out 2).trans rfl; have hfz10_0 := blk_frozen BK348.out 0; have hfz10_1 := blk_frozen BK348.out 1; have hfz10_2 := blk_frozen BK348.out 2))
        go_ret
        exact ⟨by first | rfl | (simp [errW_none, errW_some] <;> rfl) | (simp [*, errW_none, errW_some] <;> rfl), by repeat (first | (with_reducible first | exact HB.out | apply below_alloc | apply pw_below_drewN | apply below_drew1 | refine below_set ?_ GE347.out | refine below_set ?_ GE348.out) | exact HB.out)⟩
      · rw [if_neg c5] at H
        have c5b0 : (a0_2 != a1_2) = false := by simpa using c5
        (try (have c5b1 : decide (a0_2 = a1_2) = true := by simpa using c5))
        (try (have c5b2 : (a0_2 == a1_2) = true := by simpa using c5))
        clear c5
        obtain rfl := Option.some.inj H
        go_enter Try.func95, Try.ntmps95
        go_wp2_with (first | ((with_reducible refine gate_dst (N := 2) rfl ?_); refine box_event ?hg (N := 2) ?hd (cs := #[.int .i64 a0_0, .int .i64 a0_1, .bool a0_2]) (t := 86) ?hr ?_; (case hd => rfl); (case hg => rfl); (case hr => first | (go_simp; done) | (go_simp; rfl)); intro gb347 hg w11 hbox hb; have n0_ := Aside0.mk (below_step (by repeat (first | (with_reducible first | exact HB.out | apply below_alloc | apply pw_below_drewN | apply below_drew1) | exact HB.out)) hb); have n1_ := Aside0.mk (hbox); have n2_ := Aside0.mk ((by rw [hg]; exact (below_size (by repeat (first | (with_reducible first | exact HB.out | apply below_alloc | apply pw_below_drewN | apply below_drew1) | exact HB.out))) : w.heap.size ≤ gb347)); have n3_ := Aside0.mk ((by rw [hg]; exact (below_size (by repeat (first | (with_reducible first | exact HB.out | apply below_alloc | apply pw_below_drewN | apply below_drew1) | exact HB.out))) : w.heap.size ≤ gb347)); clear HB; have HB := n0_; have BK347 := n1_; have GW347 := n2_; have GE347 := n3_; clear n0_ n1_ n2_ n3_; clear hb hbox hg) | ((with_reducible refine gate_dst (N := 3) rfl ?_); refine box_event ?hg (N := 3) ?hd (cs := #[.int .i64 a1_0, .int .i64 a1_1, .bool a1_2]) (t := 86) ?hr ?_; (case hd => rfl); (case hg => rfl); (case hr => first | (go_simp; done) | (go_simp; rfl)); intro gb348 hg w12 hbox hb; have n0_ := Aside0.mk (blk_below (g := gb347) (o := .cells #[.int .i64 a0_0, .int .i64 a0_1, .bool a0_2] 86 (0, 0)) (by (with_reducible repeat (first | refine blk_drewN ?_ _ | refine blk_drew ?_ | refine blk_alloc ?_ _)); exact BK347.out) hb); have n1_ := Aside0.mk (below_step (by repeat (first | (with_reducible first | exact HB.out | apply below_alloc | apply pw_below_drewN | apply below_drew1 | refine below_set ?_ GE347.out) | exact HB.out)) hb); have n2_ := Aside0.mk (hbox); have n3_ := Aside0.mk ((by rw [hg]; exact (below_size (by repeat (first | (with_reducible first | exact HB.out | apply below_alloc | apply pw_below_drewN | apply below_drew1 | refine below_set ?_ GE347.out) | exact HB.out))) : w.heap.size ≤ gb348)); have n4_ := Aside0.mk ((by rw [hg]; exact (below_size (by repeat (first | (with_reducible first | exact HB.out | apply below_alloc | apply pw_below_drewN | apply below_drew1 | refine below_set ?_ GE347.out) | exact HB.out))) : w.heap.size ≤ gb348)); have n5_ := Aside0.mk ((by rw [hg]; exact Nat.ne_of_lt (blk_lt (g := gb347) (o := .cells #[.int .i64 a0_0, .int .i64 a0_1, .bool a0_2] 86 (0, 0)) (by (with_reducible repeat (first | refine blk_drewN ?_ _ | refine blk_drew ?_ | refine blk_alloc ?_ _)); exact BK347.out)) : gb347 ≠ gb348)); have n6_ := Aside0.mk ((by rw [hg]; exact Nat.ne_of_gt (blk_lt (g := gb347) (o := .cells #[.int .i64 a0_0, .int .i64 a0_1, .bool a0_2] 86 (0, 0)) (by (with_reducible repeat (first | refine blk_drewN ?_ _ | refine blk_drew ?_ | refine blk_alloc ?_ _)); exact BK347.out)) : gb348 ≠ gb347)); clear BK347; clear HB; have BK347 := n0_; have HB := n1_; have BK348 := n2_; have GW348 := n3_; have GE348 := n4_; have NB347_348 := n5_; have NB348_347 := n6_; clear n0_ n1_ n2_ n3_ n4_ n5_ n6_; clear hb hbox hg; have hnb13 := NB347_348.out; have hnc13 := NB348_347.out; have hcz14_0 : w12.cell? ⟨gb347, 0, none⟩ = some (.int .i64 a0_0) := (blk_cell BK347.out 0).trans rfl; have hcz14_1 : w12.cell? ⟨gb347, 1, none⟩ = some (.int .i64 a0_1) := (blk_cell BK347.out 1).trans rfl; have hcz14_2 : w12.cell? ⟨gb347, 2, none⟩ = some (.bool a0_2) := (blk_cell BK347.out 2).trans rfl; have hfz14_0 := blk_frozen BK347.out 0; have hfz14_1 := blk_frozen BK347.out 1; have hfz14_2 := blk_frozen BK347.out 2; have hcz15_0 : w12.cell? ⟨gb348, 0, none⟩ = some (.int .i64 a1_0) := (blk_cell BK348.out 0).trans rfl; have hcz15_1 : w12.cell? ⟨gb348, 1, none⟩ = some (.int .i64 a1_1) := (blk_cell BK348.out 1).trans rfl; have hcz15_2 : w12.cell? ⟨gb348, 2, none⟩ = some (.bool a1_2) := (blk_cell BK348.out 2).trans rfl; have hfz15_0 := blk_frozen BK348.out 0; have hfz15_1 := blk_frozen BK348.out 1; have hfz15_2 := blk_frozen BK348.out 2))
        go_ret
        exact ⟨by first | rfl | (simp [errW_none, errW_some] <;> rfl) | (simp [*, errW_none, errW_some] <;> rfl), by repeat (first | (with_reducible first | exact HB.out | apply below_alloc | apply pw_below_drewN | apply below_drew1 | refine below_set ?_ GE347.out | refine below_set ?_ GE348.out) | exact HB.out)⟩
    · rw [if_neg c4] at H
      have c4b0 : (a0_1 == a1_1) = false := beq_eq_false_iff_ne.mpr c4
      have c4b1 : (a0_1 != a1_1) = true := bne_iff_ne.mpr c4
      obtain rfl := Option.some.inj H
      go_enter Try.func95, Try.ntmps95
      go_wp2_with (first | ((with_reducible refine gate_dst (N := 2) rfl ?_); refine box_event ?hg (N := 2) ?hd (cs := #[.int .i64 a0_0, .int .i64 a0_1, .bool a0_2]) (t := 86) ?hr ?_; (case hd => rfl); (case hg => rfl); (case hr => first | (go_simp; done) | (go_simp; rfl)); intro gb347 hg w16 hbox hb; have n0_ := Aside0.mk (below_step (by repeat (first | (with_reducible first | exact HB.out | apply below_alloc | apply pw_below_drewN | apply below_drew1) | exact HB.out)) hb); have n1_ := Aside0.mk (hbox); have n2_ := Aside0.mk ((by rw [hg]; exact (below_size (by repeat (first | (with_reducible first | exact HB.out | apply below_alloc | apply pw_below_drewN | apply below_drew1) | exact HB.out))) : w.heap.size ≤ gb347)); have n3_ := Aside0.mk ((by rw [hg]; exact (below_size (by repeat (first | (with_reducible first | exact HB.out | apply below_alloc | apply pw_below_drewN | apply below_drew1) | exact HB.out))) : w.heap.size ≤ gb347)); clear HB; have HB := n0_; have BK347 := n1_; have GW347 := n2_; have GE347 := n3_; clear n0_ n1_ n2_ n3_; clear hb hbox hg) | ((with_reducible refine gate_dst (N := 3) rfl ?_); refine box_event ?hg (N := 3) ?hd (cs := #[.int .i64 a1_0, .int .i64 a1_1, .bool a1_2]) (t := 86) ?hr ?_; (case hd => rfl); (case hg => rfl); (case hr => first | (go_simp; done) | (go_simp; rfl)); intro gb348 hg w17 hbox hb; have n0_ := Aside0.mk (blk_below (g := gb347) (o := .cells #[.int .i64 a0_0, .int .i64 a0_1, .bool a0_2] 86 (0, 0)) (by (with_reducible repeat (first | refine blk_drewN ?_ _ | refine blk_drew ?_ | refine blk_alloc ?_ _)); exact BK347.out) hb); have n1_ := Aside0.mk (below_step (by repeat (first | (with_reducible first | exact HB.out | apply below_alloc | apply pw_below_drewN | apply below_drew1 | refine below_set ?_ GE347.out) | exact HB.out)) hb); have n2_ := Aside0.mk (hbox); have n3_ := Aside0.mk ((by rw [hg]; exact (below_size (by repeat (first | (with_reducible first | exact HB.out | apply below_alloc | apply pw_below_drewN | apply below_drew1 | refine below_set ?_ GE347.out) | exact HB.out))) : w.heap.size ≤ gb348)); have n4_ := Aside0.mk ((by rw [hg]; exact (below_size (by repeat (first | (with_reducible first | exact HB.out | apply below_alloc | apply pw_below_drewN | apply below_drew1 | refine below_set ?_ GE347.out) | exact HB.out))) : w.heap.size ≤ gb348)); have n5_ := Aside0.mk ((by rw [hg]; exact Nat.ne_of_lt (blk_lt (g := gb347) (o := .cells #[.int .i64 a0_0, .int .i64 a0_1, .bool a0_2] 86 (0, 0)) (by (with_reducible repeat (first | refine blk_drewN ?_ _ | refine blk_drew ?_ | refine blk_alloc ?_ _)); exact BK347.out)) : gb347 ≠ gb348)); have n6_ := Aside0.mk ((by rw [hg]; exact Nat.ne_of_gt (blk_lt (g := gb347) (o := .cells #[.int .i64 a0_0, .int .i64 a0_1, .bool a0_2] 86 (0, 0)) (by (with_reducible repeat (first | refine blk_drewN ?_ _ | refine blk_drew ?_ | refine blk_alloc ?_ _)); exact BK347.out)) : gb348 ≠ gb347)); clear BK347; clear HB; have BK347 := n0_; have HB := n1_; have BK348 := n2_; have GW348 := n3_; have GE348 := n4_; have NB347_348 := n5_; have NB348_347 := n6_; clear n0_ n1_ n2_ n3_ n4_ n5_ n6_; clear hb hbox hg; have hnb18 := NB347_348.out; have hnc18 := NB348_347.out; have hcz19_0 : w17.cell? ⟨gb347, 0, none⟩ = some (.int .i64 a0_0) := (blk_cell BK347.out 0).trans rfl; have hcz19_1 : w17.cell? ⟨gb347, 1, none⟩ = some (.int .i64 a0_1) := (blk_cell BK347.out 1).trans rfl; have hcz19_2 : w17.cell? ⟨gb347, 2, none⟩ = some (.bool a0_2) := (blk_cell BK347.out 2).trans rfl; have hfz19_0 := blk_frozen BK347.out 0; have hfz19_1 := blk_frozen BK347.out 1; have hfz19_2 := blk_frozen BK347.out 2; have hcz20_0 : w17.cell? ⟨gb348, 0, none⟩ = some (.int .i64 a1_0) := (blk_cell BK348.out 0).trans rfl; have hcz20_1 : w17.cell? ⟨gb348, 1, none⟩ = some (.int .i64 a1_1) := (blk_cell BK348.out 1).trans rfl; have hcz20_2 : w17.cell? ⟨gb348, 2, none⟩ = some (.bool a1_2) := (blk_cell BK348.out 2).trans rfl; have hfz20_0 := blk_frozen BK348.out 0; have hfz20_1 := blk_frozen BK348.out 1; have hfz20_2 := blk_frozen BK348.out 2))
      go_ret
      exact ⟨by first | rfl | (simp [errW_none, errW_some] <;> rfl) | (simp [*, errW_none, errW_some] <;> rfl), by repeat (first | (with_reducible first | exact HB.out | apply below_alloc | apply pw_below_drewN | apply below_drew1 | refine below_set ?_ GE347.out | refine below_set ?_ GE348.out) | exact HB.out)⟩
  · rw [if_neg c3] at H
    have c3b0 : (a0_0 == a1_0) = false := beq_eq_false_iff_ne.mpr c3
    have c3b1 : (a0_0 != a1_0) = true := bne_iff_ne.mpr c3
    obtain rfl := Option.some.inj H
    go_enter Try.func95, Try.ntmps95
    go_wp2_with (first | ((with_reducible refine gate_dst (N := 2) rfl ?_); refine box_event ?hg (N := 2) ?hd (cs := #[.int .i64 a0_0, .int .i64 a0_1, .bool a0_2]) (t := 86) ?hr ?_; (case hd => rfl); (case hg => rfl); (case hr => first | (go_simp; done) | (go_simp; rfl)); intro gb347 hg w21 hbox hb; have n0_ := Aside0.mk (below_step (by repeat (first | (with_reducible first | exact HB.out | apply below_alloc | apply pw_below_drewN | apply below_drew1) | exact HB.out)) hb); have n1_ := Aside0.mk (hbox); have n2_ := Aside0.mk ((by rw [hg]; exact (below_size (by repeat (first | (with_reducible first | exact HB.out | apply below_alloc | apply pw_below_drewN | apply below_drew1) | exact HB.out))) : w.heap.size ≤ gb347)); have n3_ := Aside0.mk ((by rw [hg]; exact (below_size (by repeat (first | (with_reducible first | exact HB.out | apply below_alloc | apply pw_below_drewN | apply below_drew1) | exact HB.out))) : w.heap.size ≤ gb347)); clear HB; have HB := n0_; have BK347 := n1_; have GW347 := n2_; have GE347 := n3_; clear n0_ n1_ n2_ n3_; clear hb hbox hg) | ((with_reducible refine gate_dst (N := 3) rfl ?_); refine box_event ?hg (N := 3) ?hd (cs := #[.int .i64 a1_0, .int .i64 a1_1, .bool a1_2]) (t := 86) ?hr ?_; (case hd => rfl); (case hg => rfl); (case hr => first | (go_simp; done) | (go_simp; rfl)); intro gb348 hg w22 hbox hb; have n0_ := Aside0.mk (blk_below (g := gb347) (o := .cells #[.int .i64 a0_0, .int .i64 a0_1, .bool a0_2] 86 (0, 0)) (by (with_reducible repeat (first | refine blk_drewN ?_ _ | refine blk_drew ?_ | refine blk_alloc ?_ _)); exact BK347.out) hb); have n1_ := Aside0.mk (below_step (by repeat (first | (with_reducible first | exact HB.out | apply below_alloc | apply pw_below_drewN | apply below_drew1 | refine below_set ?_ GE347.out) | exact HB.out)) hb); have n2_ := Aside0.mk (hbox); have n3_ := Aside0.mk ((by rw [hg]; exact (below_size (by repeat (first | (with_reducible first | exact HB.out | apply below_alloc | apply pw_below_drewN | apply below_drew1 | refine below_set ?_ GE347.out) | exact HB.out))) : w.heap.size ≤ gb348)); have n4_ := Aside0.mk ((by rw [hg]; exact (below_size (by repeat (first | (with_reducible first | exact HB.out | apply below_alloc | apply pw_below_drewN | apply below_drew1 | refine below_set ?_ GE347.out) | exact HB.out))) : w.heap.size ≤ gb348)); have n5_ := Aside0.mk ((by rw [hg]; exact Nat.ne_of_lt (blk_lt (g := gb347) (o := .cells #[.int .i64 a0_0, .int .i64 a0_1, .bool a0_2] 86 (0, 0)) (by (with_reducible repeat (first | refine blk_drewN ?_ _ | refine blk_drew ?_ | refine blk_alloc ?_ _)); exact BK347.out)) : gb347 ≠ gb348)); have n6_ := Aside0.mk ((by rw [hg]; exact Nat.ne_of_gt (blk_lt (g := gb347) (o := .cells #[.int .i64 a0_0, .int .i64 a0_1, .bool a0_2] 86 (0, 0)) (by (with_reducible repeat (first | refine blk_drewN ?_ _ | refine blk_drew ?_ | refine blk_alloc ?_ _)); exact BK347.out)) : gb348 ≠ gb347)); clear BK347; clear HB; have BK347 := n0_; have HB := n1_; have BK348 := n2_; have GW348 := n3_; have GE348 := n4_; have NB347_348 := n5_; have NB348_347 := n6_; clear n0_ n1_ n2_ n3_ n4_ n5_ n6_; clear hb hbox hg; have hnb23 := NB347_348.out; have hnc23 := NB348_347.out; have hcz24_0 : w22.cell? ⟨gb347, 0, none⟩ = some (.int .i64 a0_0) := (blk_cell BK347.out 0).trans rfl; have hcz24_1 : w22.cell? ⟨gb347, 1, none⟩ = some (.int .i64 a0_1) := (blk_cell BK347.out 1).trans rfl; have hcz24_2 : w22.cell? ⟨gb347, 2, none⟩ = some (.bool a0_2) := (blk_cell BK347.out 2).trans rfl; have hfz24_0 := blk_frozen BK347.out 0; have hfz24_1 := blk_frozen BK347.out 1; have hfz24_2 := blk_frozen BK347.out 2; have hcz25_0 : w22.cell? ⟨gb348, 0, none⟩ = some (.int .i64 a1_0) := (blk_cell BK348.out 0).trans rfl; have hcz25_1 : w22.cell? ⟨gb348, 1, none⟩ = some (.int .i64 a1_1) := (blk_cell BK348.out 1).trans rfl; have hcz25_2 : w22.cell? ⟨gb348, 2, none⟩ = some (.bool a1_2) := (blk_cell BK348.out 2).trans rfl; have hfz25_0 := blk_frozen BK348.out 0; have hfz25_1 := blk_frozen BK348.out 1; have hfz25_2 := blk_frozen BK348.out 2))
    go_ret
    exact ⟨by first | rfl | (simp [errW_none, errW_some] <;> rfl) | (simp [*, errW_none, errW_some] <;> rfl), by repeat (first | (with_reducible first | exact HB.out | apply below_alloc | apply pw_below_drewN | apply below_drew1 | refine below_set ?_ GE347.out | refine below_set ?_ GE348.out) | exact HB.out)⟩
def laws_eqNodeS.l0 : Nat → List (S86) → List (S86) → Int → Option (Bool)
  | 0, _, _, _ => none
  | k + 1, x0, x1, x5 => if x5 < (x0.length : Int) then (if 0 ≤ x5 then (if x5 < (x1.length : Int) then ((laws_eqNode.f ((rd_T86 x0 x5).f0) ((rd_T86 x0 x5).f1) ((rd_T86 x0 x5).f2) ((rd_T86 x1 x5).f0) ((rd_T86 x1 x5).f1) ((rd_T86 x1 x5).f2)).bind fun t351 => (if t351 = true then (laws_eqNodeS.l0 k x0 x1 (wrap64 (x5 + 1))) else (some false))) else (none)) else (none)) else (some true)
def laws_eqNodeS.f (k : Nat) (l0 : List (S86)) (l1 : List (S86)) : Option (Bool) := if (l0.length : Int) = (l1.length : Int) then (laws_eqNodeS.l0 k l0 l1 0) else (some false)
def laws_eqNodeS.T6 : Bool × List (List Nat × List Nat) := (true, [([], []), ([], []), ([0, 1], [0, 1]), ([2], [2]), ([], []), ([], []), ([4, 5], [4, 5]), ([6], [6]), ([3, 7], [3, 7]), ([8], [8])])
def laws_eqNodeS.B6 : List Nat := [0, 0, 3, 7, 0, 0, 48, 112, 255, 511]
theorem laws_eqNodeS.tab6 : rtab .any (opsOf Try.f58 6) = laws_eqNodeS.T6 := by kernel_rfl
theorem laws_eqNodeS.bits6 : waitsOk laws_eqNodeS.T6.2 laws_eqNodeS.B6 = true := by kernel_rfl
set_option maxHeartbeats 8000000 in
set_option maxRecDepth 100000 in
theorem laws_eqNodeS.calls (k : Nat) (A0 : Option Addr) (c0 : Nat) (l0 : List (S86)) (A1 : Option Addr) (c1 : Nat) (l1 : List (S86)) (r : Bool) (w : World) (hr0 : Kd.C k86 w A0 l0.length l0) (hc0 : l0.length ≤ c0) (hr1 : Kd.C k86 w A1 l1.length l1) (hc1 : l1.length ≤ c1) (h : laws_eqNodeS.f k l0 l1 = some r) :
    Calls Try.prog 58 #[.slice A0 l0.length c0, .slice A1 l1.length c1] w fun e w' => e = .returned (.bool r) ∧ Below w.heap.size w w' := by
  have hu86 := Try.underlying86
  have HR0 := Aside0.mk hr0
  have HC0 := Aside0.mk hc0
  clear hr0 hc0
  have HR1 := Aside0.mk hr1
  have HC1 := Aside0.mk hc1
  clear hr1 hc1
  have HB := Aside0.mk (Below.refl w.heap.size w)
  have H : (if (l0.length : Int) = (l1.length : Int) then (laws_eqNodeS.l0 k l0 l1 0) else (some false)) = some r := h
  clear h
  by_cases c3 : (l0.length : Int) = (l1.length : Int)
  · rw [if_pos c3] at H
    have c3b0 : ((l0.length : Int) == (l1.length : Int)) = true := beq_iff_eq.mpr c3
    have c3b1 : ((l0.length : Int) != (l1.length : Int)) = false := bne_eq_false_iff_eq.mpr c3
    have c3b2 : (l0.length == l1.length) = true := by first | simpa using c3 | (simp at c3 ⊢; omega)
    clear c3
    have H' := Aside0.mk H
    clear H
    go_enter Try.func58, Try.ntmps58
    go_wp2
    go_loopg [5] k (fun kq v5 w' => ∃ (x5_1 : Int), v5 = .int .i64 x5_1 ∧ Aside0 (laws_eqNodeS.l0 kq l0 l1 x5_1 = some r) ∧ Aside0 (kq ≤ k) ∧ Aside0 (Below w.heap.size w w'))
    case atStart => exact ⟨(0), (by first | rfl | (simp; done) | (simp [*]; done)), H', ⟨Nat.le_refl _⟩, ⟨by repeat (first | (with_reducible first | exact HB.out | apply below_alloc | apply pw_below_drewN | apply below_drew1) | exact HB.out)⟩⟩
    case round =>
      clear H'
      try clear c1
      try clear p2
      try clear c3
      try clear c3b0
      try clear c3b1
      try clear c3b2
      obtain ⟨x5_1, rfl, HA, HK1, HB⟩ := hrel
      cases gk with
      | zero => exact absurd HA.out (by simp [laws_eqNodeS.l0])
      | succ k1 =>
        have H := HA.out
        clear HA
        simp only [laws_eqNodeS.l0] at H
        by_cases c4 : x5_1 < (l0.length : Int)
        · rw [if_pos c4] at H
          have c4b0 : decide (x5_1 < (l0.length : Int)) = true := decide_eq_true c4
          clear c4
          by_cases c5 : 0 ≤ x5_1
          · rw [if_pos c5] at H
            have c5b0 : decide (0 ≤ x5_1) = true := decide_eq_true c5
            clear c5
            by_cases c6 : x5_1 < (l1.length : Int)
            · rw [if_pos c6] at H
              have c6b0 : decide (x5_1 < (l1.length : Int)) = true := decide_eq_true c6
              clear c6
              replace H := Option.bind_eq_some_iff.mp H
              obtain ⟨t351, A70, H⟩ := H
              replace H : (if t351 = true then (laws_eqNodeS.l0 k1 l0 l1 (wrap64 (x5_1 + 1))) else (some false)) = some r := H
              have A7 := Aside0.mk A70
              clear A70
              by_cases c8 : t351 = true
              · subst c8
                have H1 : (laws_eqNodeS.l0 k1 l0 l1 (wrap64 (x5_1 + 1))) = some r := by rw [if_pos rfl] at H; exact H
                clear H
                have H := H1
                clear H1
                have H' := Aside0.mk H
                clear H
                try go_wp2
                have n0_ := Aside0.mk (below_drew1 HB.out)
                clear HB
                have HB := n0_
                clear n0_
                have p349 : 0 ≤ (x5_1 : Int) := of_decide_eq_true (by first | (with_reducible assumption) | assumption)
                have q349 : x5_1 < (l0.length : Int) := of_decide_eq_true (by first | (with_reducible assumption) | assumption)
                obtain ⟨ad349, e349, hx349_0, hx349_1, hx349_2⟩ := at_T86 HR0.out x5_1 p349 q349
                have hw349_2 := hx349_2
                have hw349_1 := hx349_1
                have hw349_0 := hx349_0
                cases e349
                replace hx349_0 := (HB.out.cell (World.block_lt_of_cell? w _ hx349_0)).trans hx349_0
                replace hx349_1 := (HB.out.cell (World.block_lt_of_cell? w _ hx349_1)).trans hx349_1
                replace hx349_2 := (HB.out.cell (World.block_lt_of_cell? w _ hx349_2)).trans hx349_2
                replace p349 := eq_true p349
                replace q349 := eq_true q349
                have p350 : 0 ≤ (x5_1 : Int) := of_decide_eq_true (by first | (with_reducible assumption) | assumption)
                have q350 : x5_1 < (l1.length : Int) := of_decide_eq_true (by first | (with_reducible assumption) | assumption)
                obtain ⟨ad350, e350, hx350_0, hx350_1, hx350_2⟩ := at_T86 HR1.out x5_1 p350 q350
                have hw350_2 := hx350_2
                have hw350_1 := hx350_1
                have hw350_0 := hx350_0
                cases e350
                replace hx350_0 := (HB.out.cell (World.block_lt_of_cell? w _ hx350_0)).trans hx350_0
                replace hx350_1 := (HB.out.cell (World.block_lt_of_cell? w _ hx350_1)).trans hx350_1
                replace hx350_2 := (HB.out.cell (World.block_lt_of_cell? w _ hx350_2)).trans hx350_2
                replace p350 := eq_true p350
                replace q350 := eq_true q350
                refine start_ (n := 10) (S := fun w' => w'.cell? (ad349.add ((x5_1).toNat * 3)) = some (.int .i64 ((rd_T86 l0 x5_1).f0)) ∧ w'.cell? ⟨(ad349.add ((x5_1).toNat * 3)).block, (ad349.add ((x5_1).toNat * 3)).off + 1, none⟩ = some (.int .i64 ((rd_T86 l0 x5_1).f1)) ∧ w'.cell? ⟨(ad349.add ((x5_1).toNat * 3)).block, (ad349.add ((x5_1).toNat * 3)).off + 2, none⟩ = some (.bool ((rd_T86 l0 x5_1).f2)) ∧ w'.cell? (ad350.add ((x5_1).toNat * 3)) = some (.int .i64 ((rd_T86 l1 x5_1).f0)) ∧ w'.cell? ⟨(ad350.add ((x5_1).toNat * 3)).block, (ad350.add ((x5_1).toNat * 3)).off + 1, none⟩ = some (.int .i64 ((rd_T86 l1 x5_1).f1)) ∧ w'.cell? ⟨(ad350.add ((x5_1).toNat * 3)).block, (ad350.add ((x5_1).toNat * 3)).off + 2, none⟩ = some (.bool ((rd_T86 l1 x5_1).f2))) (ds := []) #[false, false, false, false, false, false, false, false, false, false] (by kernel_rfl) rfl rfl ⟨((HB.out.cell (World.block_lt_of_cell? w _ hw349_0)).trans hw349_0), ((HB.out.cell (World.block_lt_of_cell? w _ hw349_1)).trans hw349_1), ((HB.out.cell (World.block_lt_of_cell? w _ hw349_2)).trans hw349_2), ((HB.out.cell (World.block_lt_of_cell? w _ hw350_0)).trans hw350_0), ((HB.out.cell (World.block_lt_of_cell? w _ hw350_1)).trans hw350_1), ((HB.out.cell (World.block_lt_of_cell? w _ hw350_2)).trans hw350_2)⟩ (fun hHeld => ?_); refine with_tabW laws_eqNodeS.tab6 laws_eqNodeS.bits6 (fun HT_ HW_ => ?_)
                generalize wr.drew = w9 at HB hx349_0 hx349_1 hx349_2 hx350_0 hx350_1 hx350_2 hHeld ⊢
                refine pure_ (i := 0) (N := some 17) (v := ?_) (a' := ?_) #[true, false, false, false, false, false, false, false, false, false] rfl rfl (any_of HT_.out (by kernel_rfl)) (fun _ _ _ h => h) (Or.inl ⟨by rfl, ?_⟩) ?_ ?_
                rotate_left
                · intro w'
                  go_simp
                  with_reducible rfl
                rotate_left
                · simp only [Act.put, List.setIfInBounds_toArray, List.set_cons_zero, List.set_cons_succ, i64_w, i32_w]
                  rfl
                refine pure_ (i := 1) (N := some 18) (v := ?_) (a' := ?_) #[true, true, false, false, false, false, false, false, false, false] rfl rfl (any_of HT_.out (by kernel_rfl)) (fun _ _ _ h => h) (Or.inl ⟨by rfl, ?_⟩) ?_ ?_
                rotate_left
                · intro w'
                  go_simp
                  with_reducible rfl
                rotate_left
                · simp only [Act.put, List.setIfInBounds_toArray, List.set_cons_zero, List.set_cons_succ, i64_w, i32_w]
                  rfl
                refine pure_ (i := 2) (N := some 19) (v := ?_) (a' := ?_) #[true, true, true, false, false, false, false, false, false, false] rfl rfl (any_of HT_.out (by kernel_rfl)) (fun _ _ _ h => h) (Or.inl ⟨by rfl, ?_⟩) ?_ ?_
                rotate_left
                · intro w'
                  go_simp
                  with_reducible rfl
                rotate_left
                · simp only [Act.put, List.setIfInBounds_toArray, List.set_cons_zero, List.set_cons_succ, i64_w, i32_w]
                  rfl
                refine pure_ (i := 4) (N := some 21) (v := ?_) (a' := ?_) #[true, true, true, false, true, false, false, false, false, false] rfl rfl (any_of HT_.out (by kernel_rfl)) (fun _ _ _ h => h) (Or.inl ⟨by rfl, ?_⟩) ?_ ?_
                rotate_left
                · intro w'
                  go_simp
                  with_reducible rfl
                rotate_left
                · simp only [Act.put, List.setIfInBounds_toArray, List.set_cons_zero, List.set_cons_succ, i64_w, i32_w]
                  rfl
                refine pure_ (i := 5) (N := some 22) (v := ?_) (a' := ?_) #[true, true, true, false, true, true, false, false, false, false] rfl rfl (any_of HT_.out (by kernel_rfl)) (fun _ _ _ h => h) (Or.inl ⟨by rfl, ?_⟩) ?_ ?_
                rotate_left
                · intro w'
                  go_simp
                  with_reducible rfl
                rotate_left
                · simp only [Act.put, List.setIfInBounds_toArray, List.set_cons_zero, List.set_cons_succ, i64_w, i32_w]
                  rfl
                refine pure_ (i := 6) (N := some 23) (v := ?_) (a' := ?_) #[true, true, true, false, true, true, true, false, false, false] rfl rfl (any_of HT_.out (by kernel_rfl)) (fun _ _ _ h => h) (Or.inl ⟨by rfl, ?_⟩) ?_ ?_
                rotate_left
                · intro w'
                  go_simp
                  with_reducible rfl
                rotate_left
                · simp only [Act.put, List.setIfInBounds_toArray, List.set_cons_zero, List.set_cons_succ, i64_w, i32_w]
                  rfl
                refine take_ (i := 3) (N := some 20) (v := ?_) (a' := ?_) #[true, true, true, true, true, true, true, false, false, false] rfl rfl (take_ofW HT_.out HW_.out (by kernel_rfl)) (fun _ _ _ h => h) (Or.inl ⟨by rfl, ?_⟩) hHeld ?_ ?_
                rotate_left
                · rintro w' ⟨s0, s1, s2, s3, s4, s5⟩
                  go_simp
                  with_reducible rfl
                rotate_left
                · simp only [Act.put, List.setIfInBounds_toArray, List.set_cons_zero, List.set_cons_succ, i64_w, i32_w]
                  rfl
                refine take_ (i := 7) (N := some 24) (v := ?_) (a' := ?_) #[true, true, true, true, true, true, true, true, false, false] rfl rfl (take_ofW HT_.out HW_.out (by kernel_rfl)) (fun _ _ _ h => h) (Or.inl ⟨by rfl, ?_⟩) hHeld ?_ ?_
                rotate_left
                · rintro w' ⟨s0, s1, s2, s3, s4, s5⟩
                  go_simp
                  with_reducible rfl
                rotate_left
                · simp only [Act.put, List.setIfInBounds_toArray, List.set_cons_zero, List.set_cons_succ, i64_w, i32_w]
                  rfl
                refine one_ (i := 8) (N := some 25) #[true, true, true, true, true, true, true, true, true, false] rfl rfl (one_of HT_.out (by kernel_rfl)) (by decide) (fun K hK => ?_)
                refine goes_ Try.func95 (by kernel_rfl) rfl #[.agg #[.int .i64 ((rd_T86 l0 x5_1).f0), .int .i64 ((rd_T86 l0 x5_1).f1), .bool ((rd_T86 l0 x5_1).f2)], .agg #[.int .i64 ((rd_T86 l1 x5_1).f0), .int .i64 ((rd_T86 l1 x5_1).f1), .bool ((rd_T86 l1 x5_1).f2)]] (by rfl) rfl rfl (by (try simp only [List.map_toArray, List.map_cons, List.map_nil]); first | done | rfl | (simp only [List.length_drop, List.length_take]; rfl)) ?_
                with_reducible refine (laws_eqNode.calls ((rd_T86 l0 x5_1).f0) ((rd_T86 l0 x5_1).f1) ((rd_T86 l0 x5_1).f2) ((rd_T86 l1 x5_1).f0) ((rd_T86 l1 x5_1).f1) ((rd_T86 l1 x5_1).f2) true _ A7.out).mono ?_
                rintro e w10 ⟨rfl, hb⟩
                refine ⟨_, rfl, ?_⟩
                have n0_ := Aside0.mk (below_step (by repeat (first | (with_reducible first | exact HB.out | apply below_alloc | apply pw_below_drewN | apply below_drew1) | exact HB.out)) hb)
                clear HB
                have HB := n0_
                clear n0_
                (try clear hb)
                (try clear hb2)
                (try clear hk)
                (try clear hi)
                refine hK.out _ _ ⟨((HB.out.cell (World.block_lt_of_cell? w _ hw349_0)).trans hw349_0), ((HB.out.cell (World.block_lt_of_cell? w _ hw349_1)).trans hw349_1), ((HB.out.cell (World.block_lt_of_cell? w _ hw349_2)).trans hw349_2), ((HB.out.cell (World.block_lt_of_cell? w _ hw350_0)).trans hw350_0), ((HB.out.cell (World.block_lt_of_cell? w _ hw350_1)).trans hw350_1), ((HB.out.cell (World.block_lt_of_cell? w _ hw350_2)).trans hw350_2)⟩ (fun hHeld => ?_)
                clear hK K
                refine norm_ (a' := ?_) ?_ ?_
                rotate_left
                · show Act.put _ (some 25) _ = _
                  simp only [Act.put, List.setIfInBounds_toArray, List.set_cons_zero, List.set_cons_succ, i64_w, i32_w]
                  rfl
                refine pure_ (i := 9) (N := some 26) (v := ?_) (a' := ?_) #[true, true, true, true, true, true, true, true, true, true] rfl rfl (any_of HT_.out (by kernel_rfl)) (fun _ _ _ h => h) (Or.inl ⟨by rfl, ?_⟩) ?_ ?_
                rotate_left
                · intro w'
                  go_simp
                  with_reducible rfl
                rotate_left
                · simp only [Act.put, List.setIfInBounds_toArray, List.set_cons_zero, List.set_cons_succ, i64_w, i32_w]
                  rfl
                refine done_ (done_of HT_.out (by kernel_rfl)) ?_
                try go_wp2
                go_roundg k1
                case measure => have := HK1.out; omega
                case rel => exact ⟨(wrap64 (x5_1 + 1)), (by first | rfl | (simp; done) | (simp [*]; done)), H', ⟨by have := HK1.out; omega⟩, ⟨by repeat (first | (with_reducible first | exact HB.out | apply below_alloc | apply pw_below_drewN | apply below_drew1) | exact HB.out)⟩⟩
              · replace c8 := Bool.eq_false_iff.mpr c8
                subst c8
                have H1 : (some false) = some r := by rw [if_neg (show ¬ (false = true) by decide)] at H; exact H
                clear H
                have H := H1
                clear H1
                obtain rfl := Option.some.inj H
                try go_wp2
                have n0_ := Aside0.mk (below_drew1 HB.out)
                clear HB
                have HB := n0_
                clear n0_
                have p349 : 0 ≤ (x5_1 : Int) := of_decide_eq_true (by first | (with_reducible assumption) | assumption)
                have q349 : x5_1 < (l0.length : Int) := of_decide_eq_true (by first | (with_reducible assumption) | assumption)
                obtain ⟨ad349, e349, hx349_0, hx349_1, hx349_2⟩ := at_T86 HR0.out x5_1 p349 q349
                have hw349_2 := hx349_2
                have hw349_1 := hx349_1
                have hw349_0 := hx349_0
                cases e349
                replace hx349_0 := (HB.out.cell (World.block_lt_of_cell? w _ hx349_0)).trans hx349_0
                replace hx349_1 := (HB.out.cell (World.block_lt_of_cell? w _ hx349_1)).trans hx349_1
                replace hx349_2 := (HB.out.cell (World.block_lt_of_cell? w _ hx349_2)).trans hx349_2
                replace p349 := eq_true p349
                replace q349 := eq_true q349
                have p350 : 0 ≤ (x5_1 : Int) := of_decide_eq_true (by first | (with_reducible assumption) | assumption)
                have q350 : x5_1 < (l1.length : Int) := of_decide_eq_true (by first | (with_reducible assumption) | assumption)
                obtain ⟨ad350, e350, hx350_0, hx350_1, hx350_2⟩ := at_T86 HR1.out x5_1 p350 q350
                have hw350_2 := hx350_2
                have hw350_1 := hx350_1
                have hw350_0 := hx350_0
                cases e350
                replace hx350_0 := (HB.out.cell (World.block_lt_of_cell? w _ hx350_0)).trans hx350_0
                replace hx350_1 := (HB.out.cell (World.block_lt_of_cell? w _ hx350_1)).trans hx350_1
                replace hx350_2 := (HB.out.cell (World.block_lt_of_cell? w _ hx350_2)).trans hx350_2
                replace p350 := eq_true p350
                replace q350 := eq_true q350
                refine start_ (n := 10) (S := fun w' => w'.cell? (ad349.add ((x5_1).toNat * 3)) = some (.int .i64 ((rd_T86 l0 x5_1).f0)) ∧ w'.cell? ⟨(ad349.add ((x5_1).toNat * 3)).block, (ad349.add ((x5_1).toNat * 3)).off + 1, none⟩ = some (.int .i64 ((rd_T86 l0 x5_1).f1)) ∧ w'.cell? ⟨(ad349.add ((x5_1).toNat * 3)).block, (ad349.add ((x5_1).toNat * 3)).off + 2, none⟩ = some (.bool ((rd_T86 l0 x5_1).f2)) ∧ w'.cell? (ad350.add ((x5_1).toNat * 3)) = some (.int .i64 ((rd_T86 l1 x5_1).f0)) ∧ w'.cell? ⟨(ad350.add ((x5_1).toNat * 3)).block, (ad350.add ((x5_1).toNat * 3)).off + 1, none⟩ = some (.int .i64 ((rd_T86 l1 x5_1).f1)) ∧ w'.cell? ⟨(ad350.add ((x5_1).toNat * 3)).block, (ad350.add ((x5_1).toNat * 3)).off + 2, none⟩ = some (.bool ((rd_T86 l1 x5_1).f2))) (ds := []) #[false, false, false, false, false, false, false, false, false, false] (by kernel_rfl) rfl rfl ⟨((HB.out.cell (World.block_lt_of_cell? w _ hw349_0)).trans hw349_0), ((HB.out.cell (World.block_lt_of_cell? w _ hw349_1)).trans hw349_1), ((HB.out.cell (World.block_lt_of_cell? w _ hw349_2)).trans hw349_2), ((HB.out.cell (World.block_lt_of_cell? w _ hw350_0)).trans hw350_0), ((HB.out.cell (World.block_lt_of_cell? w _ hw350_1)).trans hw350_1), ((HB.out.cell (World.block_lt_of_cell? w _ hw350_2)).trans hw350_2)⟩ (fun hHeld => ?_); refine with_tabW laws_eqNodeS.tab6 laws_eqNodeS.bits6 (fun HT_ HW_ => ?_)
                generalize wr.drew = w11 at HB hx349_0 hx349_1 hx349_2 hx350_0 hx350_1 hx350_2 hHeld ⊢
                refine pure_ (i := 0) (N := some 17) (v := ?_) (a' := ?_) #[true, false, false, false, false, false, false, false, false, false] rfl rfl (any_of HT_.out (by kernel_rfl)) (fun _ _ _ h => h) (Or.inl ⟨by rfl, ?_⟩) ?_ ?_
                rotate_left
                · intro w'
                  go_simp
                  with_reducible rfl
                rotate_left
                · simp only [Act.put, List.setIfInBounds_toArray, List.set_cons_zero, List.set_cons_succ, i64_w, i32_w]
                  rfl
                refine pure_ (i := 1) (N := some 18) (v := ?_) (a' := ?_) #[true, true, false, false, false, false, false, false, false, false] rfl rfl (any_of HT_.out (by kernel_rfl)) (fun _ _ _ h => h) (Or.inl ⟨by rfl, ?_⟩) ?_ ?_
                rotate_left
                · intro w'
                  go_simp
                  with_reducible rfl
                rotate_left
                · simp only [Act.put, List.setIfInBounds_toArray, List.set_cons_zero, List.set_cons_succ, i64_w, i32_w]
                  rfl
                refine pure_ (i := 2) (N := some 19) (v := ?_) (a' := ?_) #[true, true, true, false, false, false, false, false, false, false] rfl rfl (any_of HT_.out (by kernel_rfl)) (fun _ _ _ h => h) (Or.inl ⟨by rfl, ?_⟩) ?_ ?_
                rotate_left
                · intro w'
                  go_simp
                  with_reducible rfl
                rotate_left
                · simp only [Act.put, List.setIfInBounds_toArray, List.set_cons_zero, List.set_cons_succ, i64_w, i32_w]
                  rfl
                refine pure_ (i := 4) (N := some 21) (v := ?_) (a' := ?_) #[true, true, true, false, true, false, false, false, false, false] rfl rfl (any_of HT_.out (by kernel_rfl)) (fun _ _ _ h => h) (Or.inl ⟨by rfl, ?_⟩) ?_ ?_
                rotate_left
                · intro w'
                  go_simp
                  with_reducible rfl
                rotate_left
                · simp only [Act.put, List.setIfInBounds_toArray, List.set_cons_zero, List.set_cons_succ, i64_w, i32_w]
                  rfl
                refine pure_ (i := 5) (N := some 22) (v := ?_) (a' := ?_) #[true, true, true, false, true, true, false, false, false, false] rfl rfl (any_of HT_.out (by kernel_rfl)) (fun _ _ _ h => h) (Or.inl ⟨by rfl, ?_⟩) ?_ ?_
                rotate_left
                · intro w'
                  go_simp
                  with_reducible rfl
                rotate_left
                · simp only [Act.put, List.setIfInBounds_toArray, List.set_cons_zero, List.set_cons_succ, i64_w, i32_w]
                  rfl
                refine pure_ (i := 6) (N := some 23) (v := ?_) (a' := ?_) #[true, true, true, false, true, true, true, false, false, false] rfl rfl (any_of HT_.out (by kernel_rfl)) (fun _ _ _ h => h) (Or.inl ⟨by rfl, ?_⟩) ?_ ?_
                rotate_left
                · intro w'
                  go_simp
                  with_reducible rfl
                rotate_left
                · simp only [Act.put, List.setIfInBounds_toArray, List.set_cons_zero, List.set_cons_succ, i64_w, i32_w]
                  rfl
                refine take_ (i := 3) (N := some 20) (v := ?_) (a' := ?_) #[true, true, true, true, true, true, true, false, false, false] rfl rfl (take_ofW HT_.out HW_.out (by kernel_rfl)) (fun _ _ _ h => h) (Or.inl ⟨by rfl, ?_⟩) hHeld ?_ ?_
                rotate_left
                · rintro w' ⟨s0, s1, s2, s3, s4, s5⟩
                  go_simp
                  with_reducible rfl
                rotate_left
                · simp only [Act.put, List.setIfInBounds_toArray, List.set_cons_zero, List.set_cons_succ, i64_w, i32_w]
                  rfl
                refine take_ (i := 7) (N := some 24) (v := ?_) (a' := ?_) #[true, true, true, true, true, true, true, true, false, false] rfl rfl (take_ofW HT_.out HW_.out (by kernel_rfl)) (fun _ _ _ h => h) (Or.inl ⟨by rfl, ?_⟩) hHeld ?_ ?_
                rotate_left
                · rintro w' ⟨s0, s1, s2, s3, s4, s5⟩
                  go_simp
                  with_reducible rfl
                rotate_left
                · simp only [Act.put, List.setIfInBounds_toArray, List.set_cons_zero, List.set_cons_succ, i64_w, i32_w]
                  rfl
                refine one_ (i := 8) (N := some 25) #[true, true, true, true, true, true, true, true, true, false] rfl rfl (one_of HT_.out (by kernel_rfl)) (by decide) (fun K hK => ?_)
                refine goes_ Try.func95 (by kernel_rfl) rfl #[.agg #[.int .i64 ((rd_T86 l0 x5_1).f0), .int .i64 ((rd_T86 l0 x5_1).f1), .bool ((rd_T86 l0 x5_1).f2)], .agg #[.int .i64 ((rd_T86 l1 x5_1).f0), .int .i64 ((rd_T86 l1 x5_1).f1), .bool ((rd_T86 l1 x5_1).f2)]] (by rfl) rfl rfl (by (try simp only [List.map_toArray, List.map_cons, List.map_nil]); first | done | rfl | (simp only [List.length_drop, List.length_take]; rfl)) ?_
                with_reducible refine (laws_eqNode.calls ((rd_T86 l0 x5_1).f0) ((rd_T86 l0 x5_1).f1) ((rd_T86 l0 x5_1).f2) ((rd_T86 l1 x5_1).f0) ((rd_T86 l1 x5_1).f1) ((rd_T86 l1 x5_1).f2) false _ A7.out).mono ?_
                rintro e w12 ⟨rfl, hb⟩
                refine ⟨_, rfl, ?_⟩
                have n0_ := Aside0.mk (below_step (by repeat (first | (with_reducible first | exact HB.out | apply below_alloc | apply pw_below_drewN | apply below_drew1) | exact HB.out)) hb)
                clear HB
                have HB := n0_
                clear n0_
                (try clear hb)
                (try clear hb2)
                (try clear hk)
                (try clear hi)
                refine hK.out _ _ ⟨((HB.out.cell (World.block_lt_of_cell? w _ hw349_0)).trans hw349_0), ((HB.out.cell (World.block_lt_of_cell? w _ hw349_1)).trans hw349_1), ((HB.out.cell (World.block_lt_of_cell? w _ hw349_2)).trans hw349_2), ((HB.out.cell (World.block_lt_of_cell? w _ hw350_0)).trans hw350_0), ((HB.out.cell (World.block_lt_of_cell? w _ hw350_1)).trans hw350_1), ((HB.out.cell (World.block_lt_of_cell? w _ hw350_2)).trans hw350_2)⟩ (fun hHeld => ?_)
                clear hK K
                refine norm_ (a' := ?_) ?_ ?_
                rotate_left
                · show Act.put _ (some 25) _ = _
                  simp only [Act.put, List.setIfInBounds_toArray, List.set_cons_zero, List.set_cons_succ, i64_w, i32_w]
                  rfl
                refine pure_ (i := 9) (N := some 26) (v := ?_) (a' := ?_) #[true, true, true, true, true, true, true, true, true, true] rfl rfl (any_of HT_.out (by kernel_rfl)) (fun _ _ _ h => h) (Or.inl ⟨by rfl, ?_⟩) ?_ ?_
                rotate_left
                · intro w'
                  go_simp
                  with_reducible rfl
                rotate_left
                · simp only [Act.put, List.setIfInBounds_toArray, List.set_cons_zero, List.set_cons_succ, i64_w, i32_w]
                  rfl
                refine done_ (done_of HT_.out (by kernel_rfl)) ?_
                try go_wp2
                go_ret
                exact ⟨by first | rfl | (simp [errW_none, errW_some] <;> rfl) | (simp [*, errW_none, errW_some] <;> rfl), by repeat (first | (with_reducible first | exact HB.out | apply below_alloc | apply pw_below_drewN | apply below_drew1) | exact HB.out)⟩
            · rw [if_neg c6] at H
              exact absurd H (by simp)
          · rw [if_neg c5] at H
            exact absurd H (by simp)
        · rw [if_neg c4] at H
          have c4b0 : decide (x5_1 < (l0.length : Int)) = false := decide_eq_false c4
          clear c4
          obtain rfl := Option.some.inj H
          go_wp2
          go_ret
          exact ⟨by first | rfl | (simp [errW_none, errW_some] <;> rfl) | (simp [*, errW_none, errW_some] <;> rfl), by repeat (first | (with_reducible first | exact HB.out | apply below_alloc | apply pw_below_drewN | apply below_drew1) | exact HB.out)⟩
  · rw [if_neg c3] at H
    have c3b0 : ((l0.length : Int) == (l1.length : Int)) = false := beq_eq_false_iff_ne.mpr c3
    have c3b1 : ((l0.length : Int) != (l1.length : Int)) = true := bne_iff_ne.mpr c3
    have c3b2 : (l0.length == l1.length) = false := by first | simpa using c3 | (simp at c3 ⊢; omega)
    obtain rfl := Option.some.inj H
    go_enter Try.func58, Try.ntmps58
    go_wp2
    go_ret
    exact ⟨by first | rfl | (simp [errW_none, errW_some] <;> rfl) | (simp [*, errW_none, errW_some] <;> rfl), by repeat (first | (with_reducible first | exact HB.out | apply below_alloc | apply pw_below_drewN | apply below_drew1) | exact HB.out)⟩
def laws_eqTrie.f (k : Nat) (l0_0 : List (S86)) (l1_0 : List (S86)) : Option (Bool) := (laws_eqNodeS.f k l0_0 l1_0).bind fun t354 => (if t354 = true then (some true) else (some false))
set_option maxHeartbeats 8000000 in
set_option maxRecDepth 100000 in
theorem laws_eqTrie.calls (k : Nat) (A0_0 : Option Addr) (c0_0 : Nat) (l0_0 : List (S86)) (A1_0 : Option Addr) (c1_0 : Nat) (l1_0 : List (S86)) (r : Bool) (w : World) (hr0_0 : Kd.C k86 w A0_0 l0_0.length l0_0) (hc0_0 : l0_0.length ≤ c0_0) (hr1_0 : Kd.C k86 w A1_0 l1_0.length l1_0) (hc1_0 : l1_0.length ≤ c1_0) (h : laws_eqTrie.f k l0_0 l1_0 = some r) :
    Calls Try.prog 19 #[.agg #[.slice A0_0 l0_0.length c0_0], .agg #[.slice A1_0 l1_0.length c1_0]] w fun e w' => e = .returned (.bool r) ∧ Below w.heap.size w w' := by
  have hu30 := Try.underlying30
  have HR0_0 := Aside0.mk hr0_0
  have HC0_0 := Aside0.mk hc0_0
  clear hr0_0 hc0_0
  have HR1_0 := Aside0.mk hr1_0
  have HC1_0 := Aside0.mk hc1_0
  clear hr1_0 hc1_0
  have HB := Aside0.mk (Below.refl w.heap.size w)
  have H : ((laws_eqNodeS.f k l0_0 l1_0).bind fun t354 => (if t354 = true then (some true) else (some false))) = some r := h
  clear h
  replace H := Option.bind_eq_some_iff.mp H
  obtain ⟨t354, A30, H⟩ := H
  replace H : (if t354 = true then (some true) else (some false)) = some r := H
  have A3 := Aside0.mk A30
  clear A30
  by_cases c4 : t354 = true
  · subst c4
    have H1 : (some true) = some r := by rw [if_pos rfl] at H; exact H
    clear H
    have H := H1
    clear H1
    obtain rfl := Option.some.inj H
    go_enter Try.func19, Try.ntmps19
    go_wp2_with (first | ((with_reducible refine gate_dst (N := 2) rfl ?_); refine box_event ?hg (N := 2) ?hd (cs := #[.slice A0_0 l0_0.length c0_0]) (t := 30) ?hr ?_; (case hd => rfl); (case hg => rfl); (case hr => first | (go_simp; done) | (go_simp; rfl)); intro gb352 hg w5 hbox hb; have n0_ := Aside0.mk (below_step (by repeat (first | (with_reducible first | exact HB.out | apply below_alloc | apply pw_below_drewN | apply below_drew1) | exact HB.out)) hb); have n1_ := Aside0.mk (hbox); have n2_ := Aside0.mk ((by rw [hg]; exact (below_size (by repeat (first | (with_reducible first | exact HB.out | apply below_alloc | apply pw_below_drewN | apply below_drew1) | exact HB.out))) : w.heap.size ≤ gb352)); have n3_ := Aside0.mk ((by rw [hg]; exact (below_size (by repeat (first | (with_reducible first | exact HB.out | apply below_alloc | apply pw_below_drewN | apply below_drew1) | exact HB.out))) : w.heap.size ≤ gb352)); clear HB; have HB := n0_; have BK352 := n1_; have GW352 := n2_; have GE352 := n3_; clear n0_ n1_ n2_ n3_; clear hb hbox hg) | ((with_reducible refine gate_dst (N := 3) rfl ?_); refine box_event ?hg (N := 3) ?hd (cs := #[.slice A1_0 l1_0.length c1_0]) (t := 30) ?hr ?_; (case hd => rfl); (case hg => rfl); (case hr => first | (go_simp; done) | (go_simp; rfl)); intro gb353 hg w6 hbox hb; have n0_ := Aside0.mk (blk_below (g := gb352) (o := .cells #[.slice A0_0 l0_0.length c0_0] 30 (0, 0)) (by (with_reducible repeat (first | refine blk_drewN ?_ _ | refine blk_drew ?_ | refine blk_alloc ?_ _)); exact BK352.out) hb); have n1_ := Aside0.mk (below_step (by repeat (first | (with_reducible first | exact HB.out | apply below_alloc | apply pw_below_drewN | apply below_drew1 | refine below_set ?_ GE352.out) | exact HB.out)) hb); have n2_ := Aside0.mk (hbox); have n3_ := Aside0.mk ((by rw [hg]; exact (below_size (by repeat (first | (with_reducible first | exact HB.out | apply below_alloc | apply pw_below_drewN | apply below_drew1 | refine below_set ?_ GE352.out) | exact HB.out))) : w.heap.size ≤ gb353)); have n4_ := Aside0.mk ((by rw [hg]; exact (below_size (by repeat (first | (with_reducible first | exact HB.out | apply below_alloc | apply pw_below_drewN | apply below_drew1 | refine below_set ?_ GE352.out) | exact HB.out))) : w.heap.size ≤ gb353)); have n5_ := Aside0.mk ((by rw [hg]; exact Nat.ne_of_lt (blk_lt (g := gb352) (o := .cells #[.slice A0_0 l0_0.length c0_0] 30 (0, 0)) (by (with_reducible repeat (first | refine blk_drewN ?_ _ | refine blk_drew ?_ | refine blk_alloc ?_ _)); exact BK352.out)) : gb352 ≠ gb353)); have n6_ := Aside0.mk ((by rw [hg]; exact Nat.ne_of_gt (blk_lt (g := gb352) (o := .cells #[.slice A0_0 l0_0.length c0_0] 30 (0, 0)) (by (with_reducible repeat (first | refine blk_drewN ?_ _ | refine blk_drew ?_ | refine blk_alloc ?_ _)); exact BK352.out)) : gb353 ≠ gb352)); clear BK352; clear HB; have BK352 := n0_; have HB := n1_; have BK353 := n2_; have GW353 := n3_; have GE353 := n4_; have NB352_353 := n5_; have NB353_352 := n6_; clear n0_ n1_ n2_ n3_ n4_ n5_ n6_; clear hb hbox hg; have hnb7 := NB352_353.out; have hnc7 := NB353_352.out; have hcz8_0 : w6.cell? ⟨gb352, 0, none⟩ = some (.slice A0_0 l0_0.length c0_0) := (blk_cell BK352.out 0).trans rfl; have hfz8_0 := blk_frozen BK352.out 0; have hcz9_0 : w6.cell? ⟨gb353, 0, none⟩ = some (.slice A1_0 l1_0.length c1_0) := (blk_cell BK353.out 0).trans rfl; have hfz9_0 := blk_frozen BK353.out 0) | ((with_reducible refine gate_callee (f := 58) rfl ?_); refine goesL_ (some 9) rfl rfl Try.func58 (by kernel_rfl) rfl #[.slice A0_0 l0_0.length c0_0, .slice A1_0 l1_0.length c1_0] rfl (by (try simp only [List.map_toArray, List.map_cons, List.map_nil]); first | done | rfl | (simp only [List.length_drop, List.length_take]; rfl)) ?_; (with_reducible refine (laws_eqNodeS.calls k _ _ l0_0 _ _ l1_0 true _ ?side1 ?side2 ?side3 ?side4 A3.out).mono ?_); (case side1 => repeat (first | exact (Kd.C_below HR0_0.out HB.out) | (with_reducible refine Kd.C_alloc ?_ _) | (with_reducible refine Kd.C_drewN ?_ _) | (with_reducible refine Kd.C_drew ?_))); (case side2 => exact HC0_0.out); (case side3 => repeat (first | exact (Kd.C_below HR1_0.out HB.out) | (with_reducible refine Kd.C_alloc ?_ _) | (with_reducible refine Kd.C_drewN ?_ _) | (with_reducible refine Kd.C_drew ?_))); (case side4 => exact HC1_0.out); rintro e w10 ⟨rfl, hb⟩; refine ⟨_, rfl, ?_⟩; have n0_ := Aside0.mk (blk_below (g := gb352) (o := .cells #[.slice A0_0 l0_0.length c0_0] 30 (0, 0)) (by (with_reducible repeat (first | refine blk_drewN ?_ _ | refine blk_drew ?_ | refine blk_alloc ?_ _)); exact BK352.out) hb); have n1_ := Aside0.mk (blk_below (g := gb353) (o := .cells #[.slice A1_0 l1_0.length c1_0] 30 (0, 0)) (by (with_reducible repeat (first | refine blk_drewN ?_ _ | refine blk_drew ?_ | refine blk_alloc ?_ _)); exact BK353.out) hb); have n2_ := Aside0.mk (below_step (by repeat (first | (with_reducible first | exact HB.out | apply below_alloc | apply pw_below_drewN | apply below_drew1 | refine below_set ?_ GE352.out | refine below_set ?_ GE353.out) | exact HB.out)) hb); clear BK352; clear BK353; clear HB; have BK352 := n0_; have BK353 := n1_; have HB := n2_; clear n0_ n1_ n2_; (try clear hb); (try clear hb2); (try clear hk); (try clear hi)))
    go_ret
    exact ⟨by first | rfl | (simp [errW_none, errW_some] <;> rfl) | (simp [*, errW_none, errW_some] <;> rfl), by repeat (first | (with_reducible first | exact HB.out | apply below_alloc | apply pw_below_drewN | apply below_drew1 | refine below_set ?_ GE352.out | refine below_set ?_ GE353.out) | exact HB.out)⟩
  · replace c4 := Bool.eq_false_iff.mpr c4
    subst c4
    have H1 : (some false) = some r := by rw [if_neg (show ¬ (false = true) by decide)] at H; exact H
    clear H
    have H := H1
    clear H1
    obtain rfl := Option.some.inj H
    go_enter Try.func19, Try.ntmps19
    go_wp2_with (first | ((with_reducible refine gate_dst (N := 2) rfl ?_); refine box_event ?hg (N := 2) ?hd (cs := #[.slice A0_0 l0_0.length c0_0]) (t := 30) ?hr ?_; (case hd => rfl); (case hg => rfl); (case hr => first | (go_simp; done) | (go_simp; rfl)); intro gb352 hg w11 hbox hb; have n0_ := Aside0.mk (below_step (by repeat (first | (with_reducible first | exact HB.out | apply below_alloc | apply pw_below_drewN | apply below_drew1) | exact HB.out)) hb); have n1_ := Aside0.mk (hbox); have n2_ := Aside0.mk ((by rw [hg]; exact (below_size (by repeat (first | (with_reducible first | exact HB.out | apply below_alloc | apply pw_below_drewN | apply below_drew1) | exact HB.out))) : w.heap.size ≤ gb352)); have n3_ := Aside0.mk ((by rw [hg]; exact (below_size (by repeat (first | (with_reducible first | exact HB.out | apply below_alloc | apply pw_below_drewN | apply below_drew1) | exact HB.out))) : w.heap.size ≤ gb352)); clear HB; have HB := n0_; have BK352 := n1_; have GW352 := n2_; have GE352 := n3_; clear n0_ n1_ n2_ n3_; clear hb hbox hg) | ((with_reducible refine gate_dst (N := 3) rfl ?_); refine box_event ?hg (N := 3) ?hd (cs := #[.slice A1_0 l1_0.length c1_0]) (t := 30) ?hr ?_; (case hd => rfl); (case hg => rfl); (case hr => first | (go_simp; done) | (go_simp; rfl)); intro gb353 hg w12 hbox hb; have n0_ := Aside0.mk (blk_below (g := gb352) (o := .cells #[.slice A0_0 l0_0.length c0_0] 30 (0, 0)) (by (with_reducible repeat (first | refine blk_drewN ?_ _ | refine blk_drew ?_ | refine blk_alloc ?_ _)); exact BK352.out) hb); have n1_ := Aside0.mk (below_step (by repeat (first | (with_reducible first | exact HB.out | apply below_alloc | apply pw_below_drewN | apply below_drew1 | refine below_set ?_ GE352.out) | exact HB.out)) hb); have n2_ := Aside0.mk (hbox); have n3_ := Aside0.mk ((by rw [hg]; exact (below_size (by repeat (first | (with_reducible first | exact HB.out | apply below_alloc | apply pw_below_drewN | apply below_drew1 | refine below_set ?_ GE352.out) | exact HB.out))) : w.heap.size ≤ gb353)); have n4_ := Aside0.mk ((by rw [hg]; exact (below_size (by repeat (first | (with_reducible first | exact HB.out | apply below_alloc | apply pw_below_drewN | apply below_drew1 | refine below_set ?_ GE352.out) | exact HB.out))) : w.heap.size ≤ gb353)); have n5_ := Aside0.mk ((by rw [hg]; exact Nat.ne_of_lt (blk_lt (g := gb352) (o := .cells #[.slice A0_0 l0_0.length c0_0] 30 (0, 0)) (by (with_reducible repeat (first | refine blk_drewN ?_ _ | refine blk_drew ?_ | refine blk_alloc ?_ _)); exact BK352.out)) : gb352 ≠ gb353)); have n6_ := Aside0.mk ((by rw [hg]; exact Nat.ne_of_gt (blk_lt (g := gb352) (o := .cells #[.slice A0_0 l0_0.length c0_0] 30 (0, 0)) (by (with_reducible repeat (first | refine blk_drewN ?_ _ | refine blk_drew ?_ | refine blk_alloc ?_ _)); exact BK352.out)) : gb353 ≠ gb352)); clear BK352; clear HB; have BK352 := n0_; have HB := n1_; have BK353 := n2_; have GW353 := n3_; have GE353 := n4_; have NB352_353 := n5_; have NB353_352 := n6_; clear n0_ n1_ n2_ n3_ n4_ n5_ n6_; clear hb hbox hg; have hnb13 := NB352_353.out; have hnc13 := NB353_352.out; have hcz14_0 : w12.cell? ⟨gb352, 0, none⟩ = some (.slice A0_0 l0_0.length c0_0) := (blk_cell BK352.out 0).trans rfl; have hfz14_0 := blk_frozen BK352.out 0; have hcz15_0 : w12.cell? ⟨gb353, 0, none⟩ = some (.slice A1_0 l1_0.length c1_0) := (blk_cell BK353.out 0).trans rfl; have hfz15_0 := blk_frozen BK353.out 0) | ((with_reducible refine gate_callee (f := 58) rfl ?_); refine goesL_ (some 9) rfl rfl Try.func58 (by kernel_rfl) rfl #[.slice A0_0 l0_0.length c0_0, .slice A1_0 l1_0.length c1_0] rfl (by (try simp only [List.map_toArray, List.map_cons, List.map_nil]); first | done | rfl | (simp only [List.length_drop, List.length_take]; rfl)) ?_; (with_reducible refine (laws_eqNodeS.calls k _ _ l0_0 _ _ l1_0 false _ ?side1 ?side2 ?side3 ?side4 A3.out).mono ?_); (case side1 => repeat (first | exact (Kd.C_below HR0_0.out HB.out) | (with_reducible refine Kd.C_alloc ?_ _) | (with_reducible refine Kd.C_drewN ?_ _) | (with_reducible refine Kd.C_drew ?_))); (case side2 => exact HC0_0.out); (case side3 => repeat (first | exact (Kd.C_below HR1_0.out HB.out) | (with_reducible refine Kd.C_alloc ?_ _) | (with_reducible refine Kd.C_drewN ?_ _) | (with_reducible refine Kd.C_drew ?_))); (case side4 => exact HC1_0.out); rintro e w16 ⟨rfl, hb⟩; refine ⟨_, rfl, ?_⟩; have n0_ := Aside0.mk (blk_below (g := gb352) (o := .cells #[.slice A0_0 l0_0.length c0_0] 30 (0, 0)) (by (with_reducible repeat (first | refine blk_drewN ?_ _ | refine blk_drew ?_ | refine blk_alloc ?_ _)); exact BK352.out) hb); have n1_ := Aside0.mk (blk_below (g := gb353) (o := .cells #[.slice A1_0 l1_0.length c1_0] 30 (0, 0)) (by (with_reducible repeat (first | refine blk_drewN ?_ _ | refine blk_drew ?_ | refine blk_alloc ?_ _)); exact BK353.out) hb); have n2_ := Aside0.mk (below_step (by repeat (first | (with_reducible first | exact HB.out | apply below_alloc | apply pw_below_drewN | apply below_drew1 | refine below_set ?_ GE352.out | refine below_set ?_ GE353.out) | exact HB.out)) hb); clear BK352; clear BK353; clear HB; have BK352 := n0_; have BK353 := n1_; have HB := n2_; clear n0_ n1_ n2_; (try clear hb); (try clear hb2); (try clear hk); (try clear hi)))
    go_ret
    exact ⟨by first | rfl | (simp [errW_none, errW_some] <;> rfl) | (simp [*, errW_none, errW_some] <;> rfl), by repeat (first | (with_reducible first | exact HB.out | apply below_alloc | apply pw_below_drewN | apply below_drew1 | refine below_set ?_ GE352.out | refine below_set ?_ GE353.out) | exact HB.out)⟩
end Go.Proofs.Ytbedgcngoddkdaa.Q
namespace Go.Proofs.Ytbedgcngoddkdaa.Q
open Go.RowKit Go.Proofs.YtbedgcngoddkdaaW.PrintWords Go.Proofs.YtbedgcngoddkdaaW.PrintLast
def Ev {α : Type} (F : Nat → Option α) (r : α) : Prop := ∃ K, ∀ k, K ≤ k → F k = some r
theorem Ev.pure {α : Type} (r : α) : Ev (fun _ => some r) r := ⟨0, fun _ _ => rfl⟩
theorem Ev.const {α : Type} {x : Option α} {r : α} (h : x = some r) : Ev (fun _ => x) r := ⟨0, fun _ _ => h⟩
theorem Ev.succ {α : Type} {F : Nat → Option α} {r : α} (h : Ev (fun k => F (k + 1)) r) : Ev F r := by
  obtain ⟨K, h⟩ := h
  refine ⟨K + 1, fun k hk => ?_⟩
  obtain ⟨j, rfl⟩ : ∃ j, k = j + 1 := ⟨k - 1, by omega⟩
  exact h j (by omega)
theorem Ev.bind {α β : Type} {F : Nat → Option α} {G : Nat → α → Option β} {t : α} {r : β} (h : Ev F t) (h2 : Ev (fun k => G k t) r) : Ev (fun k => (F k).bind (G k)) r := by
  obtain ⟨K, h⟩ := h
  obtain ⟨K2, h2⟩ := h2
  refine ⟨max K K2, fun k hk => ?_⟩
  simp only [h k (by omega), Option.bind_some]
  exact h2 k (by omega)
theorem Ev.bindc {α β : Type} {x : Option α} {G : Nat → α → Option β} {t : α} {r : β} (h : x = some t) (h2 : Ev (fun k => G k t) r) : Ev (fun k => x.bind (G k)) r := Ev.bind (Ev.const h) h2
theorem Ev.pos {α : Type} {c : Prop} [Decidable c] {F G : Nat → Option α} {r : α} (hc : c) (h : Ev F r) : Ev (fun k => if c then F k else G k) r := by simpa only [if_pos hc] using h
theorem Ev.neg {α : Type} {c : Prop} [Decidable c] {F G : Nat → Option α} {r : α} (hc : ¬ c) (h : Ev G r) : Ev (fun k => if c then F k else G k) r := by simpa only [if_neg hc] using h
theorem Ev.eq {α : Type} {F G : Nat → Option α} {r : α} (h : Ev F r) (e : ∀ k, G k = F k) : Ev G r := by obtain ⟨K, h⟩ := h; exact ⟨K, fun k hk => (e k).trans (h k hk)⟩
theorem Ev.ex {α : Type} {F : Nat → Option α} {r : α} (h : Ev F r) : ∃ k, F k = some r := by obtain ⟨K, h⟩ := h; exact ⟨K, h K (Nat.le_refl _)⟩
theorem wnext (i : Nat) (h : i ≤ 4611686018427387904) : wrap64 ((i : Int) + 1) = ((i + 1 : Nat) : Int) := by unfold wrap64; omega
end Go.Proofs.Ytbedgcngoddkdaa.Q
namespace Go.Proofs.Ytbedgcngoddkdaa.Q
open Go.RowKit Go.Proofs.YtbedgcngoddkdaaW.PrintWords Go.Proofs.YtbedgcngoddkdaaW.PrintLast
abbrev LN := S89
abbrev IN := S86
instance : DecidableEq IN := fun a b => decidable_of_iff (a.f0 = b.f0 ∧ a.f1 = b.f1 ∧ a.f2 = b.f2) ⟨fun h => by
  obtain ⟨a0, a1, a2⟩ := a
  obtain ⟨b0, b1, b2⟩ := b
  obtain ⟨rfl, rfl, rfl⟩ := h
  rfl, fun h => by subst h; exact ⟨rfl, rfl, rfl⟩⟩
def cv (l : List LN) : List IN := l.map fun x => ⟨x.f0, x.f1, x.f2⟩
theorem cv_length (l : List LN) : (cv l).length = l.length := List.length_map _
theorem toNodeS_l0 (l : List LN) (hl : l.length ≤ 1048576) : ∀ (n i : Nat), i + n = l.length → Ev (fun k => laws_toNodeS.l0 k l ((cv l).take i ++ List.replicate n z86) (i : Int)) (cv l) := by
  intro n
  induction n with
  | zero =>
    intro i h
    refine Ev.succ ?_
    simp only [laws_toNodeS.l0]
    refine Ev.neg (by omega) ?_
    rw [List.take_of_length_le (by rw [cv_length]; omega), List.replicate_zero, List.append_nil]
    exact Ev.pure _
  | succ n ih =>
    intro i h
    refine Ev.succ ?_
    simp only [laws_toNodeS.l0]
    have hlen : ((cv l).take i ++ List.replicate (n + 1) z86).length = l.length := by simp [cv_length]; omega
    refine Ev.pos (by omega) (Ev.pos (by omega) (Ev.bindc rfl (Ev.pos (by rw [hlen]; omega) ?_)))
    refine (ih (i + 1) (by omega)).eq fun k => ?_
    rw [wnext i (by omega)]
    congr 1
    have hi : i < l.length := by omega
    have e1 : (cv l).take (i + 1) = (cv l).take i ++ [⟨l[i].f0, l[i].f1, l[i].f2⟩] := by
      rw [List.take_succ_eq_append_getElem (by rw [cv_length]; omega)]
      simp [cv]
    rw [e1, Int.toNat_natCast, List.set_append_right _ _ (by simp; omega)]
    have e2 : i - ((cv l).take i).length = 0 := by simp [cv_length]; omega
    rw [e2, List.replicate_succ, List.set_cons_zero]
    simp [rd_T89, hi]
theorem toTrie_ev (l : List LN) (hl : l.length ≤ 1048576) : Ev (fun k => laws_toTrie.f k l) (cv l) := by
  unfold laws_toTrie.f laws_toNodeS.f
  refine Ev.bind (t := cv l) ?_ (Ev.pure _)
  refine Ev.pos (by omega) (Ev.pos (by omega) ?_)
  have := toNodeS_l0 l hl l.length 0 (by omega)
  simpa using this
theorem szTrie_eq (l : List LN) (hl : l.length ≤ 9223372036854775807) : laws_szTrie.f l 1048576 = some (if l.length ≤ 1048576 then (1048576 - l.length : Int) else -1) := by
  unfold laws_szTrie.f laws_szNodeS.f
  have e : wrap64 (1048576 - (l.length : Int)) = 1048576 - (l.length : Int) := by unfold wrap64; omega
  rw [e]
  by_cases h : l.length ≤ 1048576
  · rw [if_neg (show ¬ ((1048576 : Int) - l.length < 0) by omega), Option.bind_some, if_neg (show ¬ ((1048576 : Int) - l.length < 0) by omega), if_pos h]
  · rw [if_pos (show ((1048576 : Int) - l.length < 0) by omega), Option.bind_some, if_pos (by decide), if_neg h]
theorem eqNode_eq (a b : IN) : laws_eqNode.f a.f0 a.f1 a.f2 b.f0 b.f1 b.f2 = some (decide (a = b)) := by
  obtain ⟨a0, a1, a2⟩ := a
  obtain ⟨b0, b1, b2⟩ := b
  unfold laws_eqNode.f
  by_cases h0 : a0 = b0
  · by_cases h1 : a1 = b1
    · cases a2 <;> cases b2 <;> simp [h0, h1]
    · simp [h0, h1]
  · simp [h0]
theorem rd_nat' (l : List IN) (i : Nat) (h : i < l.length) : rd_T86 l (i : Int) = l[i] := by simp [rd_T86, h]
theorem eqNodeS_l0 (a b : List IN) (hab : a.length = b.length) (hl : a.length ≤ 1048576) : ∀ (n i : Nat), i + n = a.length → Ev (fun k => laws_eqNodeS.l0 k a b (i : Int)) (decide (a.drop i = b.drop i)) := by
  intro n
  induction n with
  | zero =>
    intro i h
    refine Ev.succ ?_
    simp only [laws_eqNodeS.l0]
    refine Ev.neg (by omega) ?_
    rw [List.drop_of_length_le (by omega), List.drop_of_length_le (by omega)]
    exact Ev.pure _
  | succ n ih =>
    intro i h
    refine Ev.succ ?_
    simp only [laws_eqNodeS.l0]
    have hi : i < a.length := by omega
    have hi2 : i < b.length := by omega
    refine Ev.pos (by omega) (Ev.pos (by omega) (Ev.pos (by omega) ?_))
    simp only [eqNode_eq, Option.bind_some, rd_nat' a i hi, rd_nat' b i hi2]
    have hd : (a.drop i = b.drop i) ↔ (a[i] = b[i] ∧ a.drop (i + 1) = b.drop (i + 1)) := by
      rw [List.drop_eq_getElem_cons hi, List.drop_eq_getElem_cons hi2]
      exact List.cons_eq_cons
    rw [decide_eq_decide.2 hd]
    by_cases e : a[i] = b[i]
    · refine Ev.pos (by simp [e]) ?_
      rw [wnext i (by omega)]
      have hq := ih (i + 1) (by omega)
      have e2 : decide (a[i] = b[i] ∧ a.drop (i + 1) = b.drop (i + 1)) = decide (a.drop (i + 1) = b.drop (i + 1)) := decide_eq_decide.2 (and_iff_right e)
      rw [e2]
      exact hq
    · refine Ev.neg (by simp [e]) ?_
      have e2 : decide (a[i] = b[i] ∧ a.drop (i + 1) = b.drop (i + 1)) = false := decide_eq_false (fun h => e h.1)
      rw [e2]
      exact Ev.pure _
theorem eqTrie_ev (a b : List IN) (hl : a.length ≤ 1048576) : Ev (fun k => laws_eqTrie.f k a b) (decide (a = b)) := by
  unfold laws_eqTrie.f laws_eqNodeS.f
  by_cases hab : a.length = b.length
  · refine Ev.bind (t := decide (a = b)) (Ev.pos (by omega) ?_) ?_
    · simpa using eqNodeS_l0 a b hab hl a.length 0 (by omega)
    · by_cases e : a = b
      · simp only [e, decide_true, if_true]; exact Ev.pure _
      · simp only [e, decide_false, Bool.false_eq_true, if_false]; exact Ev.pure _
  · have e : a ≠ b := fun h => hab (congrArg List.length h)
    refine Ev.bind (t := false) (Ev.neg (by omega) (Ev.pure _)) ?_
    simp only [e, decide_false, Bool.false_eq_true, if_false]
    exact Ev.pure _
end Go.Proofs.Ytbedgcngoddkdaa.Q
namespace Go.Proofs.Ytbedgcngoddkdaa.Q
open Go.RowKit Go.Proofs.YtbedgcngoddkdaaW.PrintWords Go.Proofs.YtbedgcngoddkdaaW.PrintLast
def letterW (n : Int) : ByteArray := strOfNums [(wrap64 (97 + n)) % 256]
def prefsW : List ByteArray → List IN → Option (List ByteArray)
  | ps, [] => some ps
  | ps, n :: rest => if 0 ≤ n.f1 ∧ n.f1 < ps.length ∧ 0 ≤ n.f0 ∧ n.f0 ≤ 25 then prefsW (ps ++ [rdOf ByteArray.empty ps n.f1 ++ letterW n.f0]) rest else none
def wordsW : List IN → List ByteArray → List ByteArray
  | n :: l, p :: ps => if n.f2 = true then p :: wordsW l ps else wordsW l ps
  | _, _ => []
def resP : Option (List ByteArray) → List ByteArray × Bool
  | some r => (r, true)
  | none => ([], false)
theorem in_eq (a b c : Int) : impl_in.f a b c = some (decide (b ≤ a ∧ a ≤ c)) := by
  unfold impl_in.f
  by_cases h : b ≤ a
  · rw [if_pos h]; congr 1; exact decide_eq_decide.2 (by omega)
  · rw [if_neg (by omega)]; congr 1; exact (decide_eq_false (by omega)).symm
theorem letterW_size (n : Int) : (letterW n).size = 1 := by
  simp [letterW, strOfNums, ByteArray.size]
theorem size_app (a b : ByteArray) : (a ++ b).size = a.size + b.size := by simp
theorem prefixes_l0 (y : List IN) (hy : y.length ≤ 1000) : ∀ (n i : Nat) (ps : List ByteArray), i + n = y.length → ps.length = i + 1 → (∀ p ∈ ps, p.size ≤ ps.length) →
    Ev (fun k => impl_Trie_prefixes.l0 k ps y (y.length : Int) (i : Int)) (resP (prefsW ps (y.drop i))) := by
  intro n
  induction n with
  | zero =>
    intro i ps h hp hs
    refine Ev.succ ?_
    simp only [impl_Trie_prefixes.l0]
    rw [List.drop_of_length_le (by omega)]
    exact Ev.neg (by omega) (Ev.pure _)
  | succ n ih =>
    intro i ps h hp hs
    refine Ev.succ ?_
    simp only [impl_Trie_prefixes.l0, in_eq, impl_letter.f, Option.bind_some]
    have hi : i < y.length := by omega
    rw [List.drop_eq_getElem_cons hi]
    simp only [rd_nat' y i hi, prefsW]
    refine Ev.pos (by omega) (Ev.pos (by omega) (Ev.pos (by omega) ?_))
    by_cases h1 : 0 ≤ y[i].f1 ∧ y[i].f1 ≤ (i : Int)
    · refine Ev.pos (by simpa using h1) ?_
      by_cases h2 : 0 ≤ y[i].f0 ∧ y[i].f0 ≤ 25
      · refine Ev.pos (by simpa using h2) (Ev.pos h1.1 (Ev.pos (by omega) ?_))
        rw [if_pos (by omega)]
        have hmem : rdOf ByteArray.empty ps y[i].f1 ∈ ps := at_mem h1.1 (by omega)
        have hsz := hs _ hmem
        have hls := letterW_size y[i].f0
        have hls' : (strOfNums [(wrap64 (97 + y[i].f0)) % 256]).size = 1 := hls
        refine Ev.pos (by rw [hls']; omega) (Ev.pos (by omega) ?_)
        rw [wnext i (by omega)]
        refine ih (i + 1) _ (by omega) (by simp; omega) (fun p hp2 => ?_)
        rw [List.length_append, List.length_singleton]
        rcases List.mem_append.1 hp2 with h3 | h3
        · have := hs p h3; omega
        · rw [List.mem_singleton.1 h3, size_app]
          have : (letterW y[i].f0).size = 1 := hls
          omega
      · rw [if_neg (by omega)]
        exact Ev.neg (by simpa using h2) (Ev.pure _)
    · rw [if_neg (by omega)]
      exact Ev.neg (by simpa using h1) (Ev.pure _)
def prefixesW (l : List IN) : Option (List ByteArray) := if 1 ≤ l.length ∧ l.length ≤ 481 then prefsW [ByteArray.empty] (l.drop 1) else none
theorem prefixes_ev (l : List IN) : Ev (fun k => impl_Trie_prefixes.f k l) (resP (prefixesW l)) := by
  unfold impl_Trie_prefixes.f prefixesW
  simp only [in_eq, Option.bind_some]
  by_cases h : 1 ≤ l.length ∧ l.length ≤ 481
  · rw [if_pos h]
    refine Ev.pos (by simp; omega) (Ev.pos (by omega) ?_)
    have := prefixes_l0 (l.drop 1) (by simp; omega) (l.drop 1).length 0 [ByteArray.empty] (by omega) rfl (fun p hp => by rw [List.mem_singleton.1 hp]; exact Nat.zero_le _)
    rw [List.drop_zero] at this
    exact this
  · rw [if_neg h]
    exact Ev.neg (by simp; omega) (Ev.pure _)
theorem prefsW_length : ∀ {l : List IN} {ps r : List ByteArray}, prefsW ps l = some r → r.length = ps.length + l.length
  | [], ps, r, h => by
    simp only [prefsW] at h
    injection h with h
    subst h; rfl
  | n :: l, ps, r, h => by
    simp only [prefsW] at h
    split at h
    · have := prefsW_length h
      simp at this ⊢
      omega
    · cases h
theorem prefixesW_length {l : List IN} {r : List ByteArray} (h : prefixesW l = some r) : r.length = l.length ∧ l.length ≤ 481 ∧ 1 ≤ l.length := by
  unfold prefixesW at h
  split at h
  · rename_i hl
    have := prefsW_length h
    simp at this
    omega
  · cases h
theorem words_l0 (ps : List ByteArray) (l : List IN) (hl : l.length ≤ 1000) (hp : ps.length = l.length) : ∀ (n i : Nat) (acc : List ByteArray), i + n = l.length → acc.length ≤ i →
    Ev (fun k => impl_Trie_words.l0 k ps acc l (l.length : Int) (i : Int)) (acc ++ wordsW (l.drop i) (ps.drop i)) := by
  intro n
  induction n with
  | zero =>
    intro i acc h ha
    refine Ev.succ ?_
    simp only [impl_Trie_words.l0]
    rw [List.drop_of_length_le (by omega), List.drop_of_length_le (by omega)]
    simp only [wordsW, List.append_nil]
    exact Ev.neg (by omega) (Ev.pure _)
  | succ n ih =>
    intro i acc h ha
    refine Ev.succ ?_
    simp only [impl_Trie_words.l0]
    have hi : i < l.length := by omega
    have hi2 : i < ps.length := by omega
    rw [List.drop_eq_getElem_cons hi, List.drop_eq_getElem_cons hi2]
    simp only [rd_nat' l i hi, rd_nat ps hi2, wordsW]
    refine Ev.pos (by omega) (Ev.pos (by omega) (Ev.pos (by omega) ?_))
    rw [wnext i (by omega)]
    by_cases e : l[i].f2 = true
    · refine Ev.pos e (Ev.pos (by omega) (Ev.pos (by omega) ?_))
      have := ih (i + 1) (acc ++ [ps[i]]) (by omega) (by simp; omega)
      rw [if_pos e]
      simpa using this
    · refine Ev.neg e ?_
      rw [if_neg e]
      exact ih (i + 1) acc (by omega) (by omega)
theorem words_ev (l : List IN) (ps : List ByteArray) (h : prefixesW l = some ps) : Ev (fun k => impl_Trie_words.f k l) (wordsW l ps) := by
  unfold impl_Trie_words.f
  have hl := prefixesW_length h
  refine Ev.bind (prefixes_ev l) ?_
  rw [h]
  have := words_l0 ps l (by omega) hl.1 l.length 0 [] (by omega) (by simp)
  simpa [resP] using this
theorem node_l0 (a b : List IN) (hab : a.length = b.length) (hl : a.length ≤ 1048576) : ∀ (n i : Nat), i + n = a.length → Ev (fun k => impl_Node.l0 k a b (a.length : Int) (i : Int)) (decide (a.drop i = b.drop i)) := by
  intro n
  induction n with
  | zero =>
    intro i h
    refine Ev.succ ?_
    simp only [impl_Node.l0]
    refine Ev.neg (by omega) ?_
    rw [List.drop_of_length_le (by omega), List.drop_of_length_le (by omega)]
    exact Ev.pure _
  | succ n ih =>
    intro i h
    refine Ev.succ ?_
    simp only [impl_Node.l0]
    have hi : i < a.length := by omega
    have hi2 : i < b.length := by omega
    refine Ev.pos (by omega) (Ev.pos (by omega) (Ev.pos (by omega) (Ev.pos (by omega) ?_)))
    simp only [rd_nat' a i hi, rd_nat' b i hi2]
    have hd : (a.drop i = b.drop i) ↔ (a[i] = b[i] ∧ a.drop (i + 1) = b.drop (i + 1)) := by
      rw [List.drop_eq_getElem_cons hi, List.drop_eq_getElem_cons hi2]
      exact List.cons_eq_cons
    have hne : ∀ x y : IN, (!(x.f0 == y.f0) || (!(x.f1 == y.f1) || !(x.f2 == y.f2))) = !decide (x = y) := fun x y => by
      obtain ⟨x0, x1, x2⟩ := x
      obtain ⟨y0, y1, y2⟩ := y
      by_cases h0 : x0 = y0 <;> by_cases h1 : x1 = y1 <;> by_cases h2 : x2 = y2 <;> simp [h0, h1, h2]
    rw [decide_eq_decide.2 hd, hne]
    by_cases e : a[i] = b[i]
    · refine Ev.neg (by simp [e]) ?_
      rw [wnext i (by omega)]
      have hq := ih (i + 1) (by omega)
      have e2 : decide (a[i] = b[i] ∧ a.drop (i + 1) = b.drop (i + 1)) = decide (a.drop (i + 1) = b.drop (i + 1)) := decide_eq_decide.2 (and_iff_right e)
      rw [e2]
      exact hq
    · refine Ev.pos (by simp [e]) ?_
      have e2 : decide (a[i] = b[i] ∧ a.drop (i + 1) = b.drop (i + 1)) = false := decide_eq_false (fun h => e h.1)
      rw [e2]
      exact Ev.pure _
theorem node_ev (a b : List IN) (hl : a.length ≤ 1048576) : Ev (fun k => impl_Node.f k a b) (decide (a = b)) := by
  unfold impl_Node.f
  by_cases hab : a.length = b.length
  · refine Ev.pos (by omega) ?_
    simpa using node_l0 a b hab hl a.length 0 (by omega)
  · have e : a ≠ b := fun h => hab (congrArg List.length h)
    rw [decide_eq_false e]
    exact Ev.neg (by omega) (Ev.pure _)
theorem sorted_l0 (l : List ByteArray) (hl : l.length ≤ 1000000) : ∀ (i : Nat), i < l.length → Ev (fun k => slices_IsSorted_string_string.l0 k l (i : Int)) (decide (∀ j, j < i → atW l (j : Int) ≤ atW l ((j + 1 : Nat) : Int))) := by
  intro i
  induction i with
  | zero =>
    intro h
    refine Ev.succ ?_
    simp only [slices_IsSorted_string_string.l0]
    rw [decide_eq_true (fun j hj => absurd hj (Nat.not_lt_zero _))]
    exact Ev.neg (by omega) (Ev.pure _)
  | succ i ih =>
    intro h
    refine Ev.succ ?_
    have e1 : wrap64 (((i + 1 : Nat) : Int) - 1) = (i : Int) := by unfold wrap64; omega
    simp only [slices_IsSorted_string_string.l0, less_pure, Option.bind_some, e1]
    refine Ev.pos (by omega) (Ev.pos (by omega) (Ev.pos (by omega) (Ev.pos (by omega) (Ev.pos (by omega) ?_))))
    by_cases hlt : atW l ((i + 1 : Nat) : Int) < atW l (i : Int)
    · have e2 : decide (∀ j, j < i + 1 → atW l (j : Int) ≤ atW l ((j + 1 : Nat) : Int)) = false := decide_eq_false (fun hf => absurd hlt (List.not_lt.2 (hf i (by omega))))
      rw [e2]
      exact Ev.pos (decide_eq_true hlt) (Ev.pure _)
    · refine Ev.neg (fun h2 => hlt (of_decide_eq_true h2)) ?_
      have hq := ih (by omega)
      have e2 : decide (∀ j, j < i + 1 → atW l (j : Int) ≤ atW l ((j + 1 : Nat) : Int)) = decide (∀ j, j < i → atW l (j : Int) ≤ atW l ((j + 1 : Nat) : Int)) := decide_eq_decide.2 ⟨fun hf j hj => hf j (by omega), fun hf j hj => by
        by_cases ej : j = i
        · subst ej; exact List.not_lt.1 hlt
        · exact hf j (by omega)⟩
      rw [e2]
      exact hq
theorem adj_SW (l : List ByteArray) : (∀ j, j < l.length - 1 → atW l (j : Int) ≤ atW l ((j + 1 : Nat) : Int)) ↔ SW l := by
  constructor
  · intro h
    unfold SW
    rw [List.pairwise_iff_getElem]
    have key : ∀ d i, i + d < l.length → atW l (i : Int) ≤ atW l ((i + d : Nat) : Int) := by
      intro d
      induction d with
      | zero => intro i _; exact List.le_refl _
      | succ d ih =>
        intro i hi
        exact List.le_trans (ih i (by omega)) (h (i + d) (by omega))
    intro i j hi hj hij
    have := key (j - i) i (by omega)
    rw [show i + (j - i) = j by omega] at this
    simpa [atW, rdOf, hi, hj] using this
  · intro h j hj
    exact h.at (by omega) (by omega) (by omega)
instance (l : List ByteArray) : Decidable (SW l) := inferInstanceAs (Decidable (l.Pairwise fun a b => lw a ≤ lw b))
theorem sorted_ev (l : List ByteArray) (hl : l.length ≤ 1000000) : Ev (fun k => slices_IsSorted_string_string.f k l) (decide (SW l)) := by
  unfold slices_IsSorted_string_string.f
  by_cases h0 : l.length = 0
  · obtain rfl := List.eq_nil_of_length_eq_zero h0
    refine Ev.succ ?_
    simp only [slices_IsSorted_string_string.l0]
    rw [decide_eq_true (show SW [] from List.Pairwise.nil)]
    exact Ev.neg (by simp [wrap64]) (Ev.pure _)
  · have e : wrap64 ((l.length : Int) - 1) = ((l.length - 1 : Nat) : Int) := by unfold wrap64; omega
    rw [e, ← decide_eq_decide.2 (adj_SW l)]
    exact sorted_l0 l hl (l.length - 1) (by omega)
def isTrieW (l : List IN) : Bool :=
  match prefixesW l with
  | none => false
  | some ps => if ps.any longW then false else
    decide ((wordsW l ps).length ≤ 40) && (decide (SW (wordsW l ps)) && decide (trieW (wordsW l ps) = l))
theorem wordsW_mem : ∀ {l : List IN} {ps : List ByteArray} {x : ByteArray}, x ∈ wordsW l ps → x ∈ ps
  | [], ps, x, h => by simp [wordsW] at h
  | n :: l, [], x, h => by simp [wordsW] at h
  | n :: l, p :: ps, x, h => by
    simp only [wordsW] at h
    split at h
    · rcases List.mem_cons.1 h with rfl | h
      · exact List.mem_cons_self
      · exact List.mem_cons_of_mem _ (wordsW_mem h)
    · exact List.mem_cons_of_mem _ (wordsW_mem h)
theorem allPfx_len : ∀ (ws : List ByteArray), (∀ w ∈ ws, w.size ≤ 12) → (allPfx ws).length ≤ 1 + 12 * ws.length := by
  intro ws h
  unfold allPfx
  rw [List.length_cons]
  have : (ws.flatMap fun w => pfx w w.size).length ≤ 12 * ws.length := by
    induction ws with
    | nil => simp
    | cons w ws ih =>
      rw [List.flatMap_cons, List.length_append, List.length_cons]
      have h1 := ih (fun x hx => h x (List.mem_cons_of_mem _ hx))
      have h2 := h w List.mem_cons_self
      have h3 : (pfx w w.size).length = w.size := by simp [pfx]
      omega
  omega
theorem okTrieOf_of {ws : List ByteArray} (h12 : ∀ w ∈ ws, w.size ≤ 12) (h40 : ws.length ≤ 1000000) (hs : SW ws) : impl_trieOf.f ws = some (trieW ws) := by
  unfold impl_trieOf.f okTrieOf
  have := allPfx_len ws h12
  rw [if_pos]
  simp only [Bool.and_eq_true, decide_eq_true_eq]
  exact ⟨⟨by omega, by omega⟩, hs⟩
theorem prefW_le (ws : List ByteArray) (h : ∀ w ∈ ws, w.size ≤ 12) : (prefW ws).length ≤ 1 + 12 * ws.length := Nat.le_trans (prefW_len ws) (allPfx_len ws h)
theorem trieW_length (ws : List ByteArray) : (trieW ws).length = (prefW ws).length := List.length_map _
theorem isTrie_ev (l : List IN) : Ev (fun k => impl_isTrie.f k l) (isTrieW l) := by
  unfold impl_isTrie.f isTrieW
  refine Ev.bind (prefixes_ev l) ?_
  cases hp : prefixesW l with
  | none =>
    simp only [resP]
    refine Ev.neg (by decide) (Ev.succ ?_)
    simp only [impl_isTrie.j0]
    exact Ev.pos trivial (Ev.pure _)
  | some ps =>
    simp only [resP]
    have hl := prefixesW_length hp
    refine Ev.pos trivial (Ev.bindc (t := ps.any longW) (by unfold slices_ContainsFunc_string_string_impl_isTrie_1.f; rw [if_pos (by omega)]) (Ev.succ ?_))
    simp only [impl_isTrie.j0]
    by_cases h12 : ps.any longW = true
    · rw [if_pos h12]
      exact Ev.pos h12 (Ev.pure _)
    · rw [if_neg h12]
      refine Ev.neg h12 (Ev.bind (words_ev l ps hp) ?_)
      have hsz : ∀ w ∈ wordsW l ps, w.size ≤ 12 := fun w hw => by
        have h1 : ¬ longW w = true := fun h2 => h12 (List.any_eq_true.2 ⟨w, wordsW_mem hw, h2⟩)
        simp [longW] at h1
        omega
      by_cases h40 : (wordsW l ps).length ≤ 40
      · rw [decide_eq_true h40, Bool.true_and]
        refine Ev.pos (by omega) (Ev.bind (sorted_ev _ (by omega)) ?_)
        by_cases hs : SW (wordsW l ps)
        · rw [decide_eq_true hs, Bool.true_and]
          have hle := prefW_le _ hsz
          refine Ev.pos rfl (Ev.bindc (okTrieOf_of hsz (by omega) hs) (Ev.bind (node_ev _ _ (by rw [trieW_length]; omega)) (Ev.pure _)))
        · rw [decide_eq_false hs, Bool.false_and]
          exact Ev.neg (by decide) (Ev.pure _)
      · rw [decide_eq_false h40, Bool.false_and]
        exact Ev.neg (by omega) (Ev.pure _)
end Go.Proofs.Ytbedgcngoddkdaa.Q
namespace Go.Proofs.Ytbedgcngoddkdaa.Q
open Go.RowKit Go.Proofs.YtbedgcngoddkdaaW.PrintWords Go.Proofs.YtbedgcngoddkdaaW.PrintLast
def letters (w : ByteArray) : Prop := ∀ x ∈ lw w, 97 ≤ x.toNat ∧ x.toNat ≤ 122
def okWord (w : ByteArray) : Prop := w.size ≤ 12 ∧ letters w
structure VW (ws : List ByteArray) : Prop where
  ss : SS ws
  ok : ∀ w ∈ ws, okWord w
  len : ws.length ≤ 40
def V (l : List IN) : Prop := ∃ ws, VW ws ∧ l = trieW ws
theorem letters_empty : letters ByteArray.empty := fun x hx => by cases hx
theorem letters_cut {w : ByteArray} (h : letters w) (n : Nat) : letters (w.extract 0 n) := fun x hx => by
  rw [lw_extract] at hx
  exact h x (List.mem_of_mem_take hx)
theorem prefW_ok {ws : List ByteArray} (h : ∀ w ∈ ws, okWord w) {p : ByteArray} (hp : p ∈ prefW ws) : okWord p := by
  rcases mem_prefW.1 hp with rfl | ⟨w, hw, j, hj, rfl⟩
  · exact ⟨Nat.zero_le _, letters_empty⟩
  · have := (h w hw).1
    exact ⟨by rw [ext_size _ _ (by omega)]; omega, letters_cut (h w hw).2 _⟩
theorem prefW_pos (ws : List ByteArray) : 0 < (prefW ws).length := List.length_pos_of_mem (mem_prefW.2 (.inl rfl))
theorem prefW_zero (ws : List ByteArray) : rdOf ByteArray.empty (prefW ws) 0 = ByteArray.empty := by
  obtain ⟨k, hk, e⟩ := List.getElem_of_mem (mem_prefW.2 (.inl rfl) : ByteArray.empty ∈ prefW ws)
  by_cases h0 : k = 0
  · subst h0
    have := rd_nat (prefW ws) hk
    exact this.trans e
  · have h1 := ss_at (prefW_ss ws) (show 0 < k by omega) hk
    rw [rd_nat _ hk, e] at h1
    exact absurd h1 (List.not_lt_nil _)
theorem prefW_nonzero (ws : List ByteArray) {k : Nat} (h0 : 0 < k) (hk : k < (prefW ws).length) : (rdOf ByteArray.empty (prefW ws) (k : Int)).size ≠ 0 := fun e => by
  have h1 := ss_at (prefW_ss ws) h0 hk
  have h2 : lw (rdOf ByteArray.empty (prefW ws) (k : Int)) = [] := List.eq_nil_of_length_eq_zero (by rw [lw_length]; exact e)
  rw [h2] at h1
  exact absurd h1 (List.not_lt_nil _)
theorem lw_app (a b : ByteArray) : lw (a ++ b) = lw a ++ lw b := by simp [lw]
theorem lw_letterW (n : Int) (h0 : 0 ≤ n) (h1 : n ≤ 25) : lw (letterW n) = [UInt8.ofNat (97 + n.toNat)] := by
  have e : (wrap64 (97 + n)) % 256 = ((97 + n.toNat : Nat) : Int) := by unfold wrap64; omega
  unfold letterW
  rw [e]
  rfl
theorem cut_last {p : ByteArray} (h : letters p) (h0 : p.size ≠ 0) : 0 ≤ (bt p ((p.size : Int) - 1) + 159) % 256 ∧ (bt p ((p.size : Int) - 1) + 159) % 256 ≤ 25 ∧ p.extract 0 (p.size - 1) ++ letterW ((bt p ((p.size : Int) - 1) + 159) % 256) = p := by
  have e : ((p.size : Int) - 1).toNat = p.size - 1 := by omega
  have hlt : p.size - 1 < p.size := by omega
  have hl : p.size - 1 < (lw p).length := by rw [lw_length]; omega
  have hb : bt p ((p.size : Int) - 1) = ((p[p.size - 1]'hlt).toNat : Int) := by simp [bt, e, hlt]
  have hx : (lw p)[p.size - 1]'hl = p[p.size - 1]'hlt := rfl
  have hr := h _ (List.getElem_mem hl)
  rw [hx] at hr
  rw [hb]
  have h1 : (((p[p.size - 1]'hlt).toNat : Int) + 159) % 256 = ((p[p.size - 1]'hlt).toNat : Int) - 97 := by omega
  rw [h1]
  refine ⟨by omega, by omega, lw_inj ?_⟩
  rw [lw_app, lw_extract, lw_letterW _ (by omega) (by omega)]
  have h2 : (97 + (((p[p.size - 1]'hlt).toNat : Int) - 97).toNat) = (p[p.size - 1]'hlt).toNat := by omega
  rw [h2, UInt8.ofNat_toNat, ← hx]
  have h3 := List.take_append_getElem hl
  rw [h3]
  exact List.take_of_length_le (by rw [lw_length]; omega)
theorem trieW_at (ws : List ByteArray) {i : Nat} (hi : i < (prefW ws).length) : (trieW ws)[i]'(by rw [trieW_length]; exact hi) = nodeW (prefW ws) ws (rdOf ByteArray.empty (prefW ws) (i : Int)) := by
  rw [rd_nat _ hi]
  simp [trieW]
theorem node_at (ws : List ByteArray) (ho : ∀ w ∈ ws, okWord w) {i : Nat} (h0 : 0 < i) (hi : i < (prefW ws).length) : ∃ j, j < i ∧ rdOf ByteArray.empty (prefW ws) (j : Int) = (rdOf ByteArray.empty (prefW ws) (i : Int)).extract 0 ((rdOf ByteArray.empty (prefW ws) (i : Int)).size - 1) ∧
    (nodeW (prefW ws) ws (rdOf ByteArray.empty (prefW ws) (i : Int))).f1 = (j : Int) ∧ 0 ≤ (nodeW (prefW ws) ws (rdOf ByteArray.empty (prefW ws) (i : Int))).f0 ∧ (nodeW (prefW ws) ws (rdOf ByteArray.empty (prefW ws) (i : Int))).f0 ≤ 25 ∧
    rdOf ByteArray.empty (prefW ws) (j : Int) ++ letterW (nodeW (prefW ws) ws (rdOf ByteArray.empty (prefW ws) (i : Int))).f0 = rdOf ByteArray.empty (prefW ws) (i : Int) := by
  have hz := prefW_nonzero ws h0 hi
  obtain ⟨p, hp⟩ : ∃ p, p = rdOf ByteArray.empty (prefW ws) (i : Int) := ⟨_, rfl⟩
  rw [← hp] at hz ⊢
  obtain ⟨j, hj, e1, e2⟩ := cut_idx hi hp hz
  have hm : p ∈ prefW ws := by rw [hp, rd_nat _ hi]; exact List.getElem_mem hi
  obtain ⟨a1, a2, a3⟩ := cut_last (prefW_ok ho hm).2 hz
  refine ⟨j, hj, e1, ?_, ?_, ?_, ?_⟩
  · unfold nodeW; rw [if_neg hz]; exact congrArg Nat.cast e2
  · unfold nodeW; rw [if_neg hz]; exact a1
  · unfold nodeW; rw [if_neg hz]; exact a2
  · unfold nodeW; rw [if_neg hz, e1]; exact a3
theorem prefsW_trie (ws : List ByteArray) (ho : ∀ w ∈ ws, okWord w) : ∀ (n i : Nat), 0 < i → i + n = (prefW ws).length → prefsW ((prefW ws).take i) ((trieW ws).drop i) = some (prefW ws) := by
  intro n
  induction n with
  | zero =>
    intro i _ h
    rw [List.take_of_length_le (by omega), List.drop_of_length_le (by rw [trieW_length]; omega)]
    rfl
  | succ n ih =>
    intro i h0 h
    have hi : i < (prefW ws).length := by omega
    have hi2 : i < (trieW ws).length := by rw [trieW_length]; exact hi
    rw [List.drop_eq_getElem_cons hi2, trieW_at ws hi]
    obtain ⟨j, hj, _, e1, e2, e3, e4⟩ := node_at ws ho h0 hi
    simp only [prefsW]
    have hl : ((prefW ws).take i).length = i := by rw [List.length_take]; omega
    rw [e1, hl, if_pos ⟨by omega, by omega, e2, e3⟩]
    have hr : rdOf ByteArray.empty ((prefW ws).take i) (j : Int) = rdOf ByteArray.empty (prefW ws) (j : Int) := by
      rw [rd_nat _ (by omega), rd_nat _ (by omega), List.getElem_take]
    rw [hr, e4, ← take_rd _ _ hi]
    exact ih (i + 1) (by omega) (by omega)
theorem prefixesW_trie {ws : List ByteArray} (h : VW ws) : prefixesW (trieW ws) = some (prefW ws) := by
  have h1 := prefW_pos ws
  have h2 := prefW_le ws (fun w hw => (h.ok w hw).1)
  have h3 := h.len
  unfold prefixesW
  rw [if_pos (by rw [trieW_length]; omega)]
  have e : (prefW ws).take 1 = [ByteArray.empty] := by
    rw [take_rd _ 0 h1]
    show [] ++ [rdOf ByteArray.empty (prefW ws) 0] = _
    rw [prefW_zero]; rfl
  have := prefsW_trie ws h.ok ((prefW ws).length - 1) 1 (by omega) (by omega)
  rwa [e] at this
theorem hasW_map (ws : List ByteArray) (ps qs : List ByteArray) : wordsW (qs.map (nodeW ps ws)) qs = qs.filter fun p => hasW ws p := by
  induction qs with
  | nil => rfl
  | cons q qs ih =>
    have e : (nodeW ps ws q).f2 = hasW ws q := by unfold nodeW; split <;> rfl
    simp only [List.map_cons, wordsW, e, ih, List.filter_cons]
theorem mem_prefW_self {ws : List ByteArray} {w : ByteArray} (h : w ∈ ws) : w ∈ prefW ws := by
  by_cases h0 : w.size = 0
  · have : w = ByteArray.empty := lw_inj (List.eq_nil_of_length_eq_zero (by rw [lw_length]; exact h0))
    exact mem_prefW.2 (.inl this)
  · exact mem_prefW.2 (.inr ⟨w, h, w.size - 1, by omega, by rw [show w.size - 1 + 1 = w.size by omega, ext_all]⟩)
theorem filter_ws {ws : List ByteArray} (h : SS ws) : ((prefW ws).filter fun p => hasW ws p) = ws := by
  refine ss_ext ((prefW_ss ws).filter _) h (fun x => ?_)
  rw [List.mem_filter, hasW_iff]
  exact ⟨fun h => h.2, fun h => ⟨mem_prefW_self h, h⟩⟩
theorem wordsW_trie {ws : List ByteArray} (h : SS ws) : wordsW (trieW ws) (prefW ws) = ws := by
  unfold trieW
  rw [hasW_map, filter_ws h]
theorem prefW_set (ws : List ByteArray) : prefW (setW ws) = prefW ws := by
  refine ss_ext (prefW_ss _) (prefW_ss _) (fun x => ?_)
  rw [mem_prefW, mem_prefW]
  refine or_congr Iff.rfl ⟨?_, ?_⟩
  · rintro ⟨w, hw, r⟩; exact ⟨w, mem_setW.1 hw, r⟩
  · rintro ⟨w, hw, r⟩; exact ⟨w, mem_setW.2 hw, r⟩
theorem hasW_set (ws : List ByteArray) (x : ByteArray) : hasW (setW ws) x = hasW ws x := by
  rw [Bool.eq_iff_iff, hasW_iff, hasW_iff, mem_setW]
theorem trieW_set (ws : List ByteArray) : trieW (setW ws) = trieW ws := by
  unfold trieW
  rw [prefW_set]
  refine List.map_congr_left fun p _ => ?_
  unfold nodeW
  simp only [hasW_set]
theorem prefsW_letters : ∀ {l : List IN} {ps r : List ByteArray}, (∀ p ∈ ps, letters p) → prefsW ps l = some r → ∀ p ∈ r, letters p
  | [], ps, r, hp, h => by
    simp only [prefsW] at h
    injection h with h
    subst h; exact hp
  | n :: l, ps, r, hp, h => by
    simp only [prefsW] at h
    split at h
    · rename_i hc
      refine prefsW_letters (fun p hm => ?_) h
      rcases List.mem_append.1 hm with hm | hm
      · exact hp p hm
      · rw [List.mem_singleton.1 hm]
        intro x hx
        rw [lw_app] at hx
        rcases List.mem_append.1 hx with hx | hx
        · exact hp _ (at_mem hc.1 hc.2.1) x hx
        · rw [lw_letterW _ hc.2.2.1 hc.2.2.2] at hx
          rw [List.mem_singleton.1 hx, UInt8.toNat_ofNat_of_lt' (by have := hc.2.2; have hz : UInt8.size = 256 := rfl; omega)]
          have := hc.2.2
          omega
    · cases h
theorem isTrieW_iff (l : List IN) : isTrieW l = true ↔ V l := by
  constructor
  · intro h
    unfold isTrieW at h
    cases hp : prefixesW l with
    | none => rw [hp] at h; cases h
    | some ps =>
      rw [hp] at h
      simp only at h
      split at h
      · cases h
      · rename_i h12
        simp only [Bool.and_eq_true, decide_eq_true_eq] at h
        obtain ⟨h40, _, hl⟩ := h
        refine ⟨setW (wordsW l ps), ⟨setW_ss _, fun w hw => ?_, Nat.le_trans (setW_len _) h40⟩, by rw [trieW_set]; exact hl.symm⟩
        have hm := wordsW_mem (mem_setW.1 hw)
        refine ⟨?_, ?_⟩
        · have h1 : ¬ longW w = true := fun h2 => h12 (List.any_eq_true.2 ⟨w, hm, h2⟩)
          simp [longW] at h1
          omega
        · unfold prefixesW at hp
          split at hp
          · exact prefsW_letters (fun p hp => by rw [List.mem_singleton.1 hp]; exact letters_empty) hp w hm
          · cases hp
  · rintro ⟨ws, h, rfl⟩
    unfold isTrieW
    rw [prefixesW_trie h]
    simp only
    have h1 : ¬ (prefW ws).any longW = true := fun hf => by
      obtain ⟨p, hp, hl⟩ := List.any_eq_true.1 hf
      have := (prefW_ok h.ok hp).1
      simp [longW] at hl
      omega
    rw [if_neg h1, wordsW_trie h.ss]
    simp only [Bool.and_eq_true, decide_eq_true_eq]
    exact ⟨h.len, h.ss.imp (fun h => List.le_of_lt h), trivial⟩
end Go.Proofs.Ytbedgcngoddkdaa.Q
namespace Go.Proofs.Ytbedgcngoddkdaa.Q
open Go.RowKit Go.Proofs.YtbedgcngoddkdaaW.PrintWords Go.Proofs.YtbedgcngoddkdaaW.PrintLast
theorem l1In_eq (a b c : Int) : spec_l1In.f a b c = some (decide (b ≤ a ∧ a ≤ c)) := by
  unfold spec_l1In.f
  by_cases h : b ≤ a
  · rw [if_pos h]; congr 1; exact decide_eq_decide.2 (by omega)
  · rw [if_neg (by omega)]; congr 1; exact (decide_eq_false (by omega)).symm
theorem bt_nat (a : ByteArray) (i : Nat) (h : i < (lw a).length) : bt a (i : Int) = (((lw a)[i]'h).toNat : Int) := by
  have h2 : i < a.size := by rw [← lw_length]; exact h
  have : ((i : Int)).toNat < a.size := by simpa using h2
  rw [← bt_at a (i : Int) this]
  rfl
theorem lt_drop : ∀ (i : Nat) (x y : Ws), x.take i = y.take i → (x < y ↔ x.drop i < y.drop i)
  | 0, x, y, _ => Iff.rfl
  | i + 1, [], [], _ => Iff.rfl
  | i + 1, [], b :: y, h => by simp at h
  | i + 1, a :: x, [], h => by simp at h
  | i + 1, a :: x, b :: y, h => by
    simp only [List.take_succ_cons, List.cons.injEq] at h
    obtain ⟨rfl, h⟩ := h
    rw [List.cons_lt_cons_self, List.drop_succ_cons, List.drop_succ_cons]
    exact lt_drop i x y h
theorem before_l0 (a b : ByteArray) (ha : a.size ≤ 4294967296) : ∀ (n i : Nat), i + n = a.size → i ≤ b.size → (lw a).take i = (lw b).take i → Ev (fun k => spec_l2Before.l0 k a b (i : Int)) (decide (lw a < lw b)) := by
  intro n
  induction n with
  | zero =>
    intro i h hib he
    refine Ev.succ ?_
    simp only [spec_l2Before.l0]
    refine Ev.neg (by omega) (Ev.succ ?_)
    simp only [spec_l2Before.j1]
    refine Ev.neg (by decide) ?_
    have e : decide ((a.size : Int) < (b.size : Int)) = decide (lw a < lw b) := by
      refine decide_eq_decide.2 ?_
      rw [lt_drop i _ _ he, List.drop_of_length_le (by rw [lw_length]; omega)]
      constructor
      · intro hq
        have hib2 : i < (lw b).length := by rw [lw_length]; omega
        rw [List.drop_eq_getElem_cons hib2]
        exact List.nil_lt_cons _ _
      · intro hq
        have : (lw b).drop i ≠ [] := fun hn => by rw [hn] at hq; exact absurd hq (List.not_lt_nil _)
        have h2 : ¬ (lw b).length ≤ i := fun hn => this (List.drop_of_length_le hn)
        rw [lw_length] at h2
        omega
    rw [e]
    exact Ev.pure _
  | succ n ih =>
    intro i h hib he
    refine Ev.succ ?_
    simp only [spec_l2Before.l0]
    have hia : i < (lw a).length := by rw [lw_length]; omega
    refine Ev.pos (by omega) (Ev.succ ?_)
    simp only [spec_l2Before.j1]
    by_cases hib2 : i < b.size
    · have hbl : i < (lw b).length := by rw [lw_length]; omega
      simp only [bt_nat a i hia, bt_nat b i hbl]
      refine Ev.pos (by simpa using hib2) (Ev.pos (by omega) (Ev.pos (by omega) (Ev.pos (by omega) ?_)))
      by_cases e : (lw a)[i] = (lw b)[i]
      · refine Ev.pos (by rw [e]) ?_
        rw [wnext i (by omega)]
        refine ih (i + 1) (by omega) (by omega) ?_
        rw [List.take_succ_eq_append_getElem hia, List.take_succ_eq_append_getElem hbl, he, e]
      · have hne : ¬ (((lw a)[i]).toNat : Int) = (((lw b)[i]).toNat : Int) := fun hq => e (UInt8.toNat.inj (by omega))
        refine Ev.neg hne ?_
        have e2 : decide ((((lw a)[i]).toNat : Int) < (((lw b)[i]).toNat : Int)) = decide (lw a < lw b) := by
          refine decide_eq_decide.2 ?_
          rw [lt_drop i _ _ he, List.drop_eq_getElem_cons hia, List.drop_eq_getElem_cons hbl, List.cons_lt_cons_iff]
          constructor
          · intro hq; exact .inl (UInt8.lt_iff_toNat_lt.2 (by omega))
          · rintro (hq | hq)
            · have := UInt8.lt_iff_toNat_lt.1 hq; omega
            · exact absurd hq.1 e
        rw [e2]
        exact Ev.pure _
    · refine Ev.neg (by simpa using hib2) ?_
      have e : decide ((a.size : Int) < (b.size : Int)) = decide (lw a < lw b) := by
        refine decide_eq_decide.2 ?_
        rw [lt_drop i _ _ he, List.drop_of_length_le (show (lw b).length ≤ i by rw [lw_length]; omega)]
        exact ⟨fun hq => absurd hq (by omega), fun hq => absurd hq (List.not_lt_nil _)⟩
      rw [e]
      exact Ev.pure _
theorem before_ev (a b : ByteArray) (ha : a.size ≤ 4294967296) : Ev (fun k => spec_l2Before.f k a b) (decide (lw a < lw b)) := by
  unfold spec_l2Before.f
  exact before_l0 a b ha a.size 0 (by omega) (by omega) rfl
theorem same_l0 (a b : List IN) (hl : a.length ≤ 1048576) : ∀ (n i : Nat), i + n = a.length → i ≤ b.length → a.take i = b.take i → Ev (fun k => spec_l2Same.l0 k (i : Int) a b) (decide (a = b)) := by
  intro n
  induction n with
  | zero =>
    intro i h hi he
    refine Ev.succ ?_
    simp only [spec_l2Same.l0]
    refine Ev.neg (by omega) (Ev.succ ?_)
    simp only [spec_l2Same.j1]
    refine Ev.neg (by decide) ?_
    have e : ((a.length : Int) == (b.length : Int)) = decide (a = b) := by
      rw [Bool.eq_iff_iff, beq_iff_eq, decide_eq_true_iff]
      constructor
      · intro hq
        rw [List.take_of_length_le (by omega), List.take_of_length_le (by omega)] at he
        exact he
      · rintro rfl; rfl
    rw [e]
    exact Ev.pure _
  | succ n ih =>
    intro i h hi he
    refine Ev.succ ?_
    simp only [spec_l2Same.l0]
    have hia : i < a.length := by omega
    refine Ev.pos (by omega) (Ev.succ ?_)
    simp only [spec_l2Same.j1]
    by_cases hib : i < b.length
    · refine Ev.pos (by simpa using hib) (Ev.pos (by omega) (Ev.pos (by omega) (Ev.pos (by omega) ?_)))
      simp only [rd_nat' a i hia, rd_nat' b i hib]
      have hne : ∀ x y : IN, (!(x.f0 == y.f0) || (!(x.f1 == y.f1) || !(x.f2 == y.f2))) = !decide (x = y) := fun x y => by
        obtain ⟨x0, x1, x2⟩ := x
        obtain ⟨y0, y1, y2⟩ := y
        by_cases h0 : x0 = y0 <;> by_cases h1 : x1 = y1 <;> by_cases h2 : x2 = y2 <;> simp [h0, h1, h2]
      rw [hne]
      by_cases e : a[i] = b[i]
      · refine Ev.neg (by simp [e]) ?_
        rw [wnext i (by omega)]
        refine ih (i + 1) (by omega) (by omega) ?_
        rw [List.take_succ_eq_append_getElem hia, List.take_succ_eq_append_getElem hib, he, e]
      · refine Ev.pos (by simp [e]) ?_
        rw [decide_eq_false (fun hq => e (by subst hq; rfl))]
        exact Ev.pure _
    · refine Ev.neg (by simpa using hib) ?_
      have e : ((a.length : Int) == (b.length : Int)) = decide (a = b) := by
        rw [Bool.eq_iff_iff, beq_iff_eq, decide_eq_true_iff]
        constructor
        · intro hq; omega
        · rintro rfl; rfl
      rw [e]
      exact Ev.pure _
theorem same_ev (a b : List IN) (hl : a.length ≤ 1048576) : Ev (fun k => spec_l2Same.f k a b) (decide (a = b)) := by
  unfold spec_l2Same.f
  exact same_l0 a b hl a.length 0 (by omega) (by omega) rfl
instance (w : ByteArray) : Decidable (letters w) := inferInstanceAs (Decidable (∀ x ∈ lw w, 97 ≤ x.toNat ∧ x.toNat ≤ 122))
instance (w : ByteArray) : Decidable (okWord w) := inferInstanceAs (Decidable (w.size ≤ 12 ∧ letters w))
theorem word_l0 (a : ByteArray) : ∀ (n i : Nat), i + n = min a.size 13 → (∀ x ∈ (lw a).take i, 97 ≤ x.toNat ∧ x.toNat ≤ 122) → Ev (fun k => spec_l2Word.l0 k a (i : Int)) (decide (okWord a)) := by
  intro n
  induction n with
  | zero =>
    intro i h hx
    refine Ev.succ ?_
    simp only [spec_l2Word.l0]
    have e : decide ((a.size : Int) ≤ 12) = decide (okWord a) := by
      refine decide_eq_decide.2 ⟨fun hs => ⟨by omega, ?_⟩, fun h => by have := h.1; omega⟩
      rw [List.take_of_length_le (by rw [lw_length]; omega)] at hx
      exact hx
    by_cases hs : a.size ≤ 12
    · refine Ev.neg (by omega) (Ev.succ ?_)
      simp only [spec_l2Word.j1]
      refine Ev.neg (by decide) ?_
      rw [e]
      exact Ev.pure _
    · have e1 : i = 13 := by omega
      by_cases h13 : 13 < a.size
      · refine Ev.pos (by omega) (Ev.succ ?_)
        simp only [spec_l2Word.j1]
        refine Ev.neg (by simp; omega) ?_
        rw [e]
        exact Ev.pure _
      · refine Ev.neg (by omega) (Ev.succ ?_)
        simp only [spec_l2Word.j1]
        refine Ev.neg (by decide) ?_
        rw [e]
        exact Ev.pure _
  | succ n ih =>
    intro i h hx
    refine Ev.succ ?_
    simp only [spec_l2Word.l0]
    have hi : i < (lw a).length := by rw [lw_length]; omega
    refine Ev.pos (by omega) (Ev.succ ?_)
    simp only [spec_l2Word.j1, bt_nat a i hi]
    refine Ev.pos (by simp; omega) (Ev.pos (by omega) (Ev.pos (by omega) ?_))
    have hnot : ¬ (97 ≤ ((lw a)[i]).toNat ∧ ((lw a)[i]).toNat ≤ 122) → decide (okWord a) = false := fun hq => decide_eq_false (fun ho => hq (ho.2 _ (List.getElem_mem hi)))
    by_cases h1 : 97 ≤ ((lw a)[i]).toNat
    · refine Ev.neg (by omega) ?_
      by_cases h2 : ((lw a)[i]).toNat ≤ 122
      · refine Ev.neg (by omega) ?_
        rw [wnext i (by omega)]
        refine ih (i + 1) (by omega) (fun x hm => ?_)
        rw [List.take_succ_eq_append_getElem hi] at hm
        rcases List.mem_append.1 hm with hm | hm
        · exact hx x hm
        · rw [List.mem_singleton.1 hm]; exact ⟨h1, h2⟩
      · rw [hnot (by omega)]
        exact Ev.pos (by omega) (Ev.pure _)
    · rw [hnot (by omega)]
      exact Ev.pos (by omega) (Ev.pure _)
theorem word_ev (a : ByteArray) : Ev (fun k => spec_l2Word.f k a) (decide (okWord a)) := by
  unfold spec_l2Word.f
  exact word_l0 a (min a.size 13) 0 (by omega) (fun x hx => by cases hx)
theorem own_eq (l : List ByteArray) (hl : l.length < 8796093022208) : spec_l2Own.f l = some l := by
  unfold spec_l2Own.f
  simp only [Option.bind_some, List.length_nil, Nat.zero_add, List.nil_append]
  rw [if_pos hl]
theorem ins_ss {l : List ByteArray} {w : ByteArray} {i : Nat} (h : SS l) (h1 : ∀ x ∈ l.take i, lw x < lw w) (h2 : ∀ x ∈ l.drop i, lw w < lw x) : (l.take i ++ [w]) ++ l.drop i = setW (w :: l) := by
  have e : l = l.take i ++ l.drop i := (List.take_append_drop i l).symm
  refine ss_ext ?_ (setW_ss _) (fun x => ?_)
  · unfold SS at h ⊢
    rw [e, List.pairwise_append] at h
    rw [List.append_assoc, List.pairwise_append]
    refine ⟨h.1, ?_, fun a ha b hb => ?_⟩
    · rw [List.singleton_append, List.pairwise_cons]
      exact ⟨h2, h.2.1⟩
    · rcases List.mem_append.1 hb with hb | hb
      · rw [List.mem_singleton.1 hb]; exact h1 a ha
      · exact h.2.2 a ha b hb
  · rw [mem_setW, List.mem_cons]
    constructor
    · intro hx
      rcases List.mem_append.1 hx with hx | hx
      · rcases List.mem_append.1 hx with hx | hx
        · exact .inr (List.mem_of_mem_take hx)
        · exact .inl (List.mem_singleton.1 hx)
      · exact .inr (List.mem_of_mem_drop hx)
    · rintro (rfl | hx)
      · simp
      · rw [e] at hx
        rcases List.mem_append.1 hx with hx | hx
        · exact List.mem_append_left _ (List.mem_append_left _ hx)
        · exact List.mem_append_right _ hx
theorem put_l0 (l : List ByteArray) (w : ByteArray) (hl : l.length ≤ 4294967296) (hz : ∀ x ∈ l, x.size ≤ 4294967296) (hs : SS l) : ∀ (n i : Nat), i + n = l.length → (∀ x ∈ l.take i, lw x < lw w) → Ev (fun k => spec_l2Put.l0 k l w (i : Int)) (setW (w :: l)) := by
  intro n
  induction n with
  | zero =>
    intro i h h1
    refine Ev.succ ?_
    simp only [spec_l2Put.l0]
    have e1 : (l.take i).length = i := by rw [List.length_take]; omega
    refine Ev.neg (by omega) (Ev.pos (by omega) (Ev.pos (by omega) (Ev.bindc (own_eq _ (by rw [Int.toNat_natCast, e1]; omega)) ?_)))
    simp only [Option.bind_some, Int.toNat_natCast]
    refine Ev.pos (by simp; omega) (Ev.pos (by simp; omega) ?_)
    rw [ins_ss hs h1 (by rw [List.drop_of_length_le (by omega)]; intro x hx; cases hx)]
    exact Ev.pure _
  | succ n ih =>
    intro i h h1
    refine Ev.succ ?_
    simp only [spec_l2Put.l0]
    have hi : i < l.length := by omega
    have e1 : (l.take i).length = i := by rw [List.length_take]; omega
    refine Ev.pos (by omega) (Ev.pos (by omega) ?_)
    simp only [rd_nat l hi]
    refine Ev.bind (before_ev _ _ (hz _ (List.getElem_mem hi))) ?_
    by_cases hb : lw l[i] < lw w
    · refine Ev.pos (decide_eq_true hb) ?_
      rw [wnext i (by omega)]
      refine ih (i + 1) (by omega) (fun x hx => ?_)
      rw [List.take_succ_eq_append_getElem hi] at hx
      rcases List.mem_append.1 hx with hx | hx
      · exact h1 x hx
      · rw [List.mem_singleton.1 hx]; exact hb
    · refine Ev.neg (fun h2 => hb (of_decide_eq_true h2)) ?_
      by_cases e : l[i] = w
      · refine Ev.pos ((tl_eq _ _).2 e) ?_
        have e2 : setW (w :: l) = l := ss_ext (setW_ss _) hs (fun x => by
          rw [mem_setW, List.mem_cons]
          exact ⟨fun hx => hx.elim (fun hx => by rw [hx, ← e]; exact List.getElem_mem hi) id, .inr⟩)
        rw [e2]
        exact Ev.pure _
      · have hgt : lw w < lw l[i] := by
          refine List.not_le.1 (fun hle => ?_)
          exact e (lw_inj (List.le_antisymm hle (List.not_lt.1 hb)))
        refine Ev.neg (fun h2 => e ((tl_eq _ _).1 h2)) (Ev.pos (by omega) (Ev.bindc (own_eq _ (by rw [Int.toNat_natCast, e1]; omega)) ?_))
        simp only [Option.bind_some, Int.toNat_natCast]
        refine Ev.pos (by simp; omega) (Ev.pos (by simp; omega) ?_)
        rw [ins_ss hs h1 (fun x hx => ?_)]
        · exact Ev.pure _
        · rw [List.drop_eq_getElem_cons hi] at hx
          rcases List.mem_cons.1 hx with rfl | hx
          · exact hgt
          · have := List.pairwise_append.1 ((List.take_append_drop (i + 1) l).symm ▸ hs : SS (l.take (i + 1) ++ l.drop (i + 1)))
            have hm : l[i] ∈ l.take (i + 1) := by
              rw [List.take_succ_eq_append_getElem hi]
              exact List.mem_append_right _ (List.mem_singleton.2 rfl)
            exact List.lt_trans hgt (this.2.2 l[i] hm x hx)
theorem put_ev (l : List ByteArray) (w : ByteArray) (hl : l.length ≤ 4294967296) (hz : ∀ x ∈ l, x.size ≤ 4294967296) (hs : SS l) : Ev (fun k => spec_l2Put.f k l w) (setW (w :: l)) := by
  unfold spec_l2Put.f
  exact put_l0 l w hl hz hs l.length 0 (by omega) (fun x hx => by cases hx)
end Go.Proofs.Ytbedgcngoddkdaa.Q
namespace Go.Proofs.Ytbedgcngoddkdaa.Q
open Go.RowKit Go.Proofs.YtbedgcngoddkdaaW.PrintWords Go.Proofs.YtbedgcngoddkdaaW.PrintLast
def setRes (l : List ByteArray) : List ByteArray × Bool := if ∀ w ∈ l, okWord w then (setW l, decide (((setW l).length : Int) ≤ 40)) else ([], false)
theorem setW_cons_set (w : ByteArray) (l : List ByteArray) : setW (w :: setW l) = setW (l ++ [w]) := ss_ext (setW_ss _) (setW_ss _) (fun x => by
  rw [mem_setW, mem_setW, List.mem_cons, mem_setW, List.mem_append, List.mem_singleton]
  exact or_comm)
theorem set_l0 (l : List ByteArray) (hl : l.length ≤ 4294967296) : ∀ (n i : Nat), i + n = l.length → (∀ w ∈ l.take i, okWord w) → Ev (fun k => spec_l2Set.l0 k l (setW (l.take i)) (i : Int)) (setRes l) := by
  intro n
  induction n with
  | zero =>
    intro i h ho
    refine Ev.succ ?_
    simp only [spec_l2Set.l0]
    rw [List.take_of_length_le (by omega)] at ho ⊢
    unfold setRes
    rw [if_pos ho]
    exact Ev.neg (by omega) (Ev.pure _)
  | succ n ih =>
    intro i h ho
    refine Ev.succ ?_
    simp only [spec_l2Set.l0]
    have hi : i < l.length := by omega
    refine Ev.pos (by omega) (Ev.pos (by omega) ?_)
    simp only [rd_nat l hi]
    refine Ev.bind (word_ev _) ?_
    by_cases hw : okWord l[i]
    · have h1 := setW_len (l.take i)
      rw [List.length_take] at h1
      refine Ev.pos (decide_eq_true hw) (Ev.bind (put_ev _ _ (by omega) (fun x hx => by have := (ho x (mem_setW.1 hx)).1; omega) (setW_ss _)) ?_)
      rw [wnext i (by omega), setW_cons_set, ← List.take_succ_eq_append_getElem hi]
      refine ih (i + 1) (by omega) (fun w hm => ?_)
      rw [List.take_succ_eq_append_getElem hi] at hm
      rcases List.mem_append.1 hm with hm | hm
      · exact ho w hm
      · rw [List.mem_singleton.1 hm]; exact hw
    · refine Ev.neg (fun h2 => hw (of_decide_eq_true h2)) ?_
      unfold setRes
      rw [if_neg (fun hf => hw (hf _ (List.getElem_mem hi)))]
      exact Ev.pure _
theorem set_ev (l : List ByteArray) (hl : l.length ≤ 4294967296) : Ev (fun k => spec_l2Set.f k l) (setRes l) := by
  unfold spec_l2Set.f
  have e : setW (l.take 0) = [] := List.eq_nil_of_length_eq_zero (Nat.le_zero.1 (setW_len _))
  have := set_l0 l hl l.length 0 (by omega) (fun w hw => by cases hw)
  rw [e] at this
  exact this
theorem has_l0 (l : List ByteArray) (x : ByteArray) (hl : l.length ≤ 4294967296) : ∀ (n i : Nat), i + n = l.length → (∀ y ∈ l.take i, y ≠ x) → Ev (fun k => spec_l2Has.l0 k l x (i : Int)) (hasW l x) := by
  intro n
  induction n with
  | zero =>
    intro i h ho
    refine Ev.succ ?_
    simp only [spec_l2Has.l0]
    rw [List.take_of_length_le (by omega)] at ho
    have e : hasW l x = false := by
      rw [Bool.eq_false_iff]
      intro hf
      exact ho x ((hasW_iff l x).1 hf) rfl
    rw [e]
    exact Ev.neg (by omega) (Ev.pure _)
  | succ n ih =>
    intro i h ho
    refine Ev.succ ?_
    simp only [spec_l2Has.l0]
    have hi : i < l.length := by omega
    refine Ev.pos (by omega) (Ev.pos (by omega) ?_)
    simp only [rd_nat l hi]
    by_cases e : l[i] = x
    · have e2 : hasW l x = true := (hasW_iff l x).2 (e ▸ List.getElem_mem hi)
      rw [e2]
      exact Ev.pos ((tl_eq _ _).2 e) (Ev.pure _)
    · refine Ev.neg (fun h2 => e ((tl_eq _ _).1 h2)) ?_
      rw [wnext i (by omega)]
      refine ih (i + 1) (by omega) (fun y hm => ?_)
      rw [List.take_succ_eq_append_getElem hi] at hm
      rcases List.mem_append.1 hm with hm | hm
      · exact ho y hm
      · rw [List.mem_singleton.1 hm]; exact e
theorem has_ev (l : List ByteArray) (x : ByteArray) (hl : l.length ≤ 4294967296) : Ev (fun k => spec_l2Has.f k l x) (hasW l x) := by
  unfold spec_l2Has.f
  exact has_l0 l x hl l.length 0 (by omega) (fun w hw => by cases hw)
def placeW (l : List ByteArray) (x : ByteArray) : Int := if hasW l x = true then (l.findIdx (fun y => decide (y = x)) : Int) else -1
theorem place_l0 (l : List ByteArray) (x : ByteArray) (hl : l.length ≤ 4294967296) : ∀ (n i : Nat), i + n = l.length → (∀ y ∈ l.take i, y ≠ x) → Ev (fun k => spec_l2Place.l0 k l x (i : Int)) (placeW l x) := by
  intro n
  induction n with
  | zero =>
    intro i h ho
    refine Ev.succ ?_
    simp only [spec_l2Place.l0]
    rw [List.take_of_length_le (by omega)] at ho
    unfold placeW
    rw [if_neg (fun hf => ho x ((hasW_iff l x).1 hf) rfl)]
    exact Ev.neg (by omega) (Ev.pure _)
  | succ n ih =>
    intro i h ho
    refine Ev.succ ?_
    simp only [spec_l2Place.l0]
    have hi : i < l.length := by omega
    refine Ev.pos (by omega) (Ev.pos (by omega) ?_)
    simp only [rd_nat l hi]
    by_cases e : l[i] = x
    · have e3 : l.findIdx (fun y => decide (y = x)) = i := by
        refine (List.findIdx_eq hi).2 ⟨by simp [e], fun j hj => ?_⟩
        have : l[j] ∈ l.take i := List.mem_take_iff_getElem.2 ⟨j, by omega, rfl⟩
        exact decide_eq_false (ho _ this)
      unfold placeW
      rw [if_pos ((hasW_iff l x).2 (e ▸ List.getElem_mem hi)), e3]
      exact Ev.pos ((tl_eq _ _).2 e) (Ev.pure _)
    · refine Ev.neg (fun h2 => e ((tl_eq _ _).1 h2)) ?_
      rw [wnext i (by omega)]
      refine ih (i + 1) (by omega) (fun y hm => ?_)
      rw [List.take_succ_eq_append_getElem hi] at hm
      rcases List.mem_append.1 hm with hm | hm
      · exact ho y hm
      · rw [List.mem_singleton.1 hm]; exact e
theorem place_ev (l : List ByteArray) (x : ByteArray) (hl : l.length ≤ 4294967296) : Ev (fun k => spec_l2Place.f k l x) (placeW l x) := by
  unfold spec_l2Place.f
  exact place_l0 l x hl l.length 0 (by omega) (fun w hw => by cases hw)
theorem of_l2 (ws : List ByteArray) (ho : ∀ w ∈ ws, okWord w) (hl : ws.length ≤ 1000000) : ∀ (n i : Nat), i + n = (prefW ws).length → Ev (fun k => spec_l2Of.l2 k ws (prefW ws) (i : Int) ((trieW ws).take i)) (trieW ws) := by
  have hle := prefW_le ws (fun w hw => (ho w hw).1)
  intro n
  induction n with
  | zero =>
    intro i h
    refine Ev.succ ?_
    simp only [spec_l2Of.l2]
    rw [List.take_of_length_le (by rw [trieW_length]; omega)]
    exact Ev.neg (by omega) (Ev.pure _)
  | succ n ih =>
    intro i h
    refine Ev.succ ?_
    simp only [spec_l2Of.l2]
    have hi : i < (prefW ws).length := by omega
    have hi2 : i < (trieW ws).length := by rw [trieW_length]; exact hi
    have hlt : ((trieW ws).take i).length = i := by rw [List.length_take]; omega
    refine Ev.pos (by omega) (Ev.pos (by omega) (Ev.bind (has_ev ws _ (by omega)) ?_))
    have hq := ih (i + 1) (by omega)
    rw [List.take_succ_eq_append_getElem hi2, trieW_at ws hi] at hq
    obtain ⟨p, hp⟩ : ∃ p, p = rdOf ByteArray.empty (prefW ws) (i : Int) := ⟨_, rfl⟩
    rw [← hp] at hq ⊢
    have hm : p ∈ prefW ws := by rw [hp, rd_nat _ hi]; exact List.getElem_mem hi
    have hsz := (prefW_ok ho hm).1
    by_cases h0 : 0 < i
    · have hz := prefW_nonzero ws h0 hi
      rw [← hp] at hz
      have e1 : wrap64 ((p.size : Int) - 1) = ((p.size - 1 : Nat) : Int) := by unfold wrap64; omega
      rw [e1]
      refine Ev.pos (by omega) (Ev.pos (by omega) (Ev.pos (by omega) (Ev.pos (by omega) (Ev.bind (place_ev _ _ (by omega)) (Ev.pos (by omega) ?_)))))
      rw [wnext i (by omega)]
      have e2 : (⟨(bt p ((p.size - 1 : Nat) : Int) - 97) % 256, placeW (prefW ws) (p.extract 0 (((p.size - 1 : Nat) : Int)).toNat), hasW ws p⟩ : IN) = nodeW (prefW ws) ws p := by
        unfold nodeW placeW
        rw [if_neg hz, Int.toNat_natCast, if_pos ((hasW_iff _ _).2 (prefW_closed hm))]
        have e3 : ((p.size - 1 : Nat) : Int) = (p.size : Int) - 1 := by omega
        rw [e3]
        congr 1
        omega
      rw [e2]
      exact hq
    · have hi0 : i = 0 := by omega
      have hz : p.size = 0 := by
        rw [hp, hi0]
        have := prefW_zero ws
        rw [show ((0 : Nat) : Int) = 0 from rfl, this]; rfl
      rw [node_root hz] at hq
      refine Ev.neg (by omega) (Ev.pos (by omega) ?_)
      rw [wnext i (by omega)]
      exact hq
theorem pfx_le (w : ByteArray) (n : Nat) (x : ByteArray) (h : x ∈ pfx w n) : x.size ≤ w.size := by
  obtain ⟨j, _, rfl⟩ := List.mem_map.1 h
  rw [ByteArray.size_extract]; omega
theorem allPfx_size {ws : List ByteArray} (ho : ∀ w ∈ ws, okWord w) {x : ByteArray} (h : x ∈ allPfx ws) : x.size ≤ 12 := by
  unfold allPfx at h
  rcases List.mem_cons.1 h with rfl | h
  · exact Nat.zero_le _
  · obtain ⟨w, hw, hx⟩ := List.mem_flatMap.1 h
    exact Nat.le_trans (pfx_le w _ x hx) (ho w hw).1
theorem of_l0 (ws : List ByteArray) (ho : ∀ w ∈ ws, okWord w) (hl : ws.length ≤ 1000000) : ∀ (n i : Nat), i + n = ws.length → Ev (fun k => spec_l2Of.l0 k ws (setW (allPfx (ws.take i))) (i : Int)) (trieW ws) := by
  intro n
  induction n with
  | zero =>
    intro i h
    refine Ev.succ ?_
    simp only [spec_l2Of.l0]
    rw [List.take_of_length_le (by omega)]
    refine Ev.neg (by omega) ?_
    have := of_l2 ws ho hl (prefW ws).length 0 (by omega)
    exact this
  | succ n ih =>
    intro i h
    have hi : i < ws.length := by omega
    have hok := ho _ (List.getElem_mem hi)
    refine Ev.succ ?_
    simp only [spec_l2Of.l0]
    refine Ev.pos (by omega) ?_
    have hot : ∀ w ∈ ws.take i, okWord w := fun w hw => ho w (List.mem_of_mem_take hw)
    have hal := allPfx_len (ws.take i) (fun w hw => (hot w hw).1)
    rw [List.length_take] at hal
    have key : ∀ (m j : Nat), j + m = ws[i].size → Ev (fun k => spec_l2Of.l1 k ws (setW (allPfx (ws.take i) ++ pfx ws[i] j)) (i : Int) ((j : Int) + 1)) (trieW ws) := by
      intro m
      induction m with
      | zero =>
        intro j hj
        refine Ev.succ ?_
        simp only [spec_l2Of.l1, rd_nat ws hi]
        refine Ev.pos (by omega) (Ev.pos (by omega) (Ev.neg (by omega) ?_))
        rw [wnext i (by omega)]
        have hq := ih (i + 1) (by omega)
        rw [allPfx_take ws i hi, rd_nat ws hi] at hq
        have : j = ws[i].size := by omega
        rw [this]
        exact hq
      | succ m ihm =>
        intro j hj
        refine Ev.succ ?_
        simp only [spec_l2Of.l1, rd_nat ws hi]
        have h12 := hok.1
        have hln := setW_len (allPfx (ws.take i) ++ pfx ws[i] j)
        rw [List.length_append, pfx_length] at hln
        refine Ev.pos (by omega) (Ev.pos (by omega) (Ev.pos (by omega) (Ev.pos (by omega) (Ev.bind (put_ev _ _ (by omega) (fun x hx => ?_) (setW_ss _)) ?_))))
        · rcases List.mem_append.1 (mem_setW.1 hx) with hx | hx
          · have := allPfx_size hot hx; omega
          · have := pfx_le _ _ _ hx; omega
        · have e1 : wrap64 ((j : Int) + 1 + 1) = ((j + 1 : Nat) : Int) + 1 := by unfold wrap64; omega
          have e2 : ((j : Int) + 1).toNat = j + 1 := by omega
          rw [e1, e2, setW_cons_set, List.append_assoc, ← pfx_succ]
          exact ihm (j + 1) (by omega)
    have := key ws[i].size 0 (by omega)
    have e : pfx ws[i] 0 = [] := rfl
    rw [e, List.append_nil] at this
    exact this
theorem of_ev (ws : List ByteArray) (ho : ∀ w ∈ ws, okWord w) (hl : ws.length ≤ 1000000) : Ev (fun k => spec_l2Of.f k ws) (trieW ws) := by
  unfold spec_l2Of.f
  have := of_l0 ws ho hl ws.length 0 (by omega)
  have e : setW (allPfx (ws.take 0)) = [⟨#[]⟩] := ss_ext (setW_ss _) (List.pairwise_singleton _ _) (fun x => by rw [mem_setW]; exact Iff.rfl)
  rw [e] at this
  exact this
end Go.Proofs.Ytbedgcngoddkdaa.Q
namespace Go.Proofs.Ytbedgcngoddkdaa.Q
open Go.RowKit Go.Proofs.YtbedgcngoddkdaaW.PrintWords Go.Proofs.YtbedgcngoddkdaaW.PrintLast
def qm : ByteArray := ⟨#[63]⟩
def prefX : Nat → List IN → Int → ByteArray → ByteArray
  | 0, _, node, s => if node = 0 then s else qm
  | n + 1, l, node, s =>
    if node > 0 then
      (if 0 ≤ (rd_T86 l node).f0 ∧ (rd_T86 l node).f0 ≤ 25 then
        (if (rd_T86 l node).f1 ≥ node then qm else prefX n l (rd_T86 l node).f1 (letterW (rd_T86 l node).f0 ++ s)) else qm)
    else if node = 0 then s else qm
theorem prefix_l0 (l : List IN) : ∀ (n : Nat) (node : Int) (s : ByteArray), node < l.length → s.size + n = 13 → Ev (fun k => spec_l2Prefix.l0 k node s l) (prefX n l node s) := by
  intro n
  induction n with
  | zero =>
    intro node s hn hs
    refine Ev.succ ?_
    simp only [spec_l2Prefix.l0, prefX]
    have key : Ev (fun k => spec_l2Prefix.j1 k node s false l) (if node = 0 then s else qm) := by
      refine Ev.succ ?_
      simp only [spec_l2Prefix.j1]
      refine Ev.neg (by decide) ?_
      by_cases h0 : node = 0
      · rw [if_pos h0, if_pos h0]; exact Ev.pure _
      · rw [if_neg h0, if_neg h0]; exact Ev.pure _
    have e : decide ((s.size : Int) ≤ 12) = false := decide_eq_false (by omega)
    rw [e]
    by_cases h : node > 0
    · exact Ev.pos h key
    · exact Ev.neg h key
  | succ n ih =>
    intro node s hn hs
    refine Ev.succ ?_
    simp only [spec_l2Prefix.l0, prefX]
    by_cases h : node > 0
    · rw [if_pos h]
      refine Ev.pos h (Ev.succ ?_)
      simp only [spec_l2Prefix.j1, l1In_eq, Option.bind_some]
      refine Ev.pos (decide_eq_true (by omega)) (Ev.pos (by omega) (Ev.pos hn ?_))
      by_cases h2 : 0 ≤ (rd_T86 l node).f0 ∧ (rd_T86 l node).f0 ≤ 25
      · rw [if_pos h2]
        refine Ev.pos (decide_eq_true h2) ?_
        by_cases h3 : (rd_T86 l node).f1 ≥ node
        · rw [if_pos h3]; exact Ev.pos h3 (Ev.pure _)
        · rw [if_neg h3]
          have hls := letterW_size (rd_T86 l node).f0
          unfold letterW at hls
          refine Ev.neg h3 (Ev.pos (by rw [hls]; omega) ?_)
          refine ih _ _ (by omega) ?_
          rw [size_app, hls]
          omega
      · rw [if_neg h2]
        exact Ev.neg (fun hf => h2 (of_decide_eq_true hf)) (Ev.pure _)
    · rw [if_neg h]
      refine Ev.neg h (Ev.succ ?_)
      simp only [spec_l2Prefix.j1]
      refine Ev.neg (by decide) ?_
      by_cases h0 : node = 0
      · rw [if_pos h0, if_pos h0]; exact Ev.pure _
      · rw [if_neg h0, if_neg h0]; exact Ev.pure _
theorem prefix_ev (l : List IN) (node : Int) (h : node < l.length) : Ev (fun k => spec_l2Prefix.f k l node) (prefX 13 l node ByteArray.empty) := by
  unfold spec_l2Prefix.f
  exact prefix_l0 l 13 node ByteArray.empty h rfl
def wordsX (l : List IN) : List Nat → List ByteArray
  | [] => []
  | i :: r => if (rd_T86 l (i : Int)).f2 = true then prefX 13 l (i : Int) ByteArray.empty :: wordsX l r else wordsX l r
theorem words_l0X (l : List IN) (hl : l.length ≤ 1048576) : ∀ (n i : Nat) (acc : List ByteArray), i + n = l.length → acc.length ≤ i → Ev (fun k => spec_l2Words.l0 k acc (i : Int) l) (acc ++ wordsX l (List.range' i n)) := by
  intro n
  induction n with
  | zero =>
    intro i acc h ha
    refine Ev.succ ?_
    simp only [spec_l2Words.l0, List.range'_zero, wordsX, List.append_nil]
    exact Ev.neg (by omega) (Ev.pure _)
  | succ n ih =>
    intro i acc h ha
    refine Ev.succ ?_
    simp only [spec_l2Words.l0, List.range'_succ, wordsX]
    refine Ev.pos (by omega) (Ev.pos (by omega) ?_)
    rw [wnext i (by omega)]
    by_cases e : (rd_T86 l (i : Int)).f2 = true
    · rw [if_pos e]
      refine Ev.pos e (Ev.bind (prefix_ev l (i : Int) (by omega)) (Ev.pos (by omega) ?_))
      have := ih (i + 1) (acc ++ [prefX 13 l (i : Int) ByteArray.empty]) (by omega) (by simp; omega)
      simpa using this
    · rw [if_neg e]
      exact Ev.neg e (ih (i + 1) acc (by omega) (by omega))
def wordsS (l : List IN) : List ByteArray := wordsX l (List.range' 0 l.length)
theorem wordsS_ev (l : List IN) (hl : l.length ≤ 1048576) : Ev (fun k => spec_l2Words.f k l) (wordsS l) := by
  unfold spec_l2Words.f
  have := words_l0X l hl l.length 0 [] (by omega) (Nat.le_refl _)
  simpa [wordsS] using this
theorem wordsX_length (l : List IN) : ∀ r, (wordsX l r).length ≤ r.length
  | [] => Nat.le_refl _
  | i :: r => by
    have := wordsX_length l r
    simp only [wordsX]
    split <;> simp <;> omega
theorem prefX_trie (ws : List ByteArray) (ho : ∀ w ∈ ws, okWord w) : ∀ (n i : Nat) (s : ByteArray), i < (prefW ws).length → (rdOf ByteArray.empty (prefW ws) (i : Int)).size < n → prefX n (trieW ws) (i : Int) s = rdOf ByteArray.empty (prefW ws) (i : Int) ++ s := by
  intro n
  induction n with
  | zero => intro i s _ h; exact absurd h (Nat.not_lt_zero _)
  | succ n ih =>
    intro i s hi hs
    simp only [prefX]
    by_cases h0 : 0 < i
    · have hi2 : i < (trieW ws).length := by rw [trieW_length]; exact hi
      rw [if_pos (by omega), rd_nat' _ i hi2, trieW_at ws hi]
      obtain ⟨j, hj, e0, e1, e2, e3, e4⟩ := node_at ws ho h0 hi
      rw [if_pos ⟨e2, e3⟩, e1, if_neg (by omega), ih j _ (by omega) ?_]
      · apply lw_inj
        rw [lw_app, lw_app, ← List.append_assoc, ← lw_app, e4, lw_app]
      · rw [e0, ByteArray.size_extract]
        have := prefW_nonzero ws h0 hi
        omega
    · obtain rfl : i = 0 := by omega
      rw [if_neg (by omega), if_pos (by omega)]
      have := prefW_zero ws
      rw [show ((0 : Nat) : Int) = 0 from rfl, this]
      apply lw_inj
      rw [lw_app]; rfl
theorem app_empty (a : ByteArray) : a ++ ByteArray.empty = a := lw_inj (by rw [lw_app]; exact List.append_nil _)
theorem prefX_trie13 {ws : List ByteArray} (ho : ∀ w ∈ ws, okWord w) {i : Nat} (hi : i < (prefW ws).length) : prefX 13 (trieW ws) (i : Int) ByteArray.empty = rdOf ByteArray.empty (prefW ws) (i : Int) := by
  have hm : rdOf ByteArray.empty (prefW ws) (i : Int) ∈ prefW ws := by rw [rd_nat _ hi]; exact List.getElem_mem hi
  have := (prefW_ok ho hm).1
  rw [prefX_trie ws ho 13 i _ hi (by omega), app_empty]
theorem wordsX_trie {ws : List ByteArray} (ho : ∀ w ∈ ws, okWord w) : ∀ (n i : Nat), i + n = (prefW ws).length → wordsX (trieW ws) (List.range' i n) = ((prefW ws).drop i).filter fun p => hasW ws p := by
  intro n
  induction n with
  | zero =>
    intro i h
    rw [List.drop_of_length_le (by omega)]
    rfl
  | succ n ih =>
    intro i h
    have hi : i < (prefW ws).length := by omega
    have hi2 : i < (trieW ws).length := by rw [trieW_length]; exact hi
    rw [List.range'_succ, List.drop_eq_getElem_cons hi, List.filter_cons]
    simp only [wordsX]
    rw [rd_nat' _ i hi2, trieW_at ws hi, prefX_trie13 ho hi, ih (i + 1) (by omega), rd_nat _ hi]
    have e : (nodeW (prefW ws) ws (prefW ws)[i]).f2 = hasW ws (prefW ws)[i] := by unfold nodeW; split <;> rfl
    rw [e]
theorem wordsS_trie {ws : List ByteArray} (h : VW ws) : wordsS (trieW ws) = ws := by
  unfold wordsS
  rw [trieW_length, wordsX_trie h.ok _ 0 (by omega), List.drop_zero, filter_ws h.ss]
def isTrieS (l : List IN) : Bool := decide (1 ≤ l.length ∧ l.length ≤ 481) && ((setRes (wordsS l)).2 && decide (trieW (setRes (wordsS l)).1 = l))
theorem trieS_ev (l : List IN) : Ev (fun k => spec_l2Trie.f k l) (isTrieS l) := by
  unfold spec_l2Trie.f isTrieS
  simp only [l1In_eq, Option.bind_some]
  by_cases h : 1 ≤ l.length ∧ l.length ≤ 481
  · rw [decide_eq_true h, Bool.true_and]
    have hwl := wordsX_length l (List.range' 0 l.length)
    rw [List.length_range'] at hwl
    refine Ev.pos (decide_eq_true (by omega)) (Ev.bind (wordsS_ev l (by omega)) (Ev.bind (set_ev _ (by unfold wordsS; omega)) ?_))
    by_cases h2 : (setRes (wordsS l)).2 = true
    · rw [h2, Bool.true_and]
      refine Ev.pos rfl ?_
      have hok : ∀ w ∈ wordsS l, okWord w := by
        unfold setRes at h2
        split at h2
        · assumption
        · cases h2
      have e1 : (setRes (wordsS l)).1 = setW (wordsS l) := by unfold setRes; rw [if_pos hok]
      rw [e1]
      have hok2 : ∀ w ∈ setW (wordsS l), okWord w := fun w hw => hok w (mem_setW.1 hw)
      have hl2 := setW_len (wordsS l)
      have hl3 : (wordsS l).length ≤ l.length := hwl
      have hle := prefW_le (setW (wordsS l)) (fun w hw => (hok2 w hw).1)
      exact Ev.bind (of_ev _ hok2 (by omega)) (Ev.bind (same_ev _ _ (by rw [trieW_length]; omega)) (Ev.pure _))
    · rw [Bool.not_eq_true] at h2
      rw [h2, Bool.false_and]
      exact Ev.neg (by decide) (Ev.pure _)
  · rw [decide_eq_false h, Bool.false_and]
    exact Ev.neg (fun hf => h (by have := of_decide_eq_true hf; omega)) (Ev.pure _)
theorem isTrieS_iff (l : List IN) : isTrieS l = true ↔ V l := by
  constructor
  · intro h
    unfold isTrieS at h
    simp only [Bool.and_eq_true, decide_eq_true_eq] at h
    obtain ⟨_, h2, h3⟩ := h
    unfold setRes at h2 h3
    split at h2
    · rename_i hok
      rw [if_pos hok] at h3
      simp only [decide_eq_true_eq] at h2
      exact ⟨_, ⟨setW_ss _, fun w hw => hok w (mem_setW.1 hw), by omega⟩, h3.symm⟩
    · cases h2
  · rintro ⟨ws, h, rfl⟩
    unfold isTrieS
    have h1 := prefW_pos ws
    have h2 := prefW_le ws (fun w hw => (h.ok w hw).1)
    have h3 := h.len
    have e : setRes (wordsS (trieW ws)) = (ws, true) := by
      rw [wordsS_trie h]
      unfold setRes
      rw [if_pos h.ok, setW_of_ss h.ss, decide_eq_true (by omega)]
    rw [e, trieW_length]
    simp
    omega
theorem trie_same (l : List IN) : isTrieS l = isTrieW l := by rw [Bool.eq_iff_iff, isTrieS_iff, isTrieW_iff]
end Go.Proofs.Ytbedgcngoddkdaa.Q
namespace Go.Proofs.Ytbedgcngoddkdaa.Q
open Go.RowKit Go.Proofs.YtbedgcngoddkdaaW.PrintWords Go.Proofs.YtbedgcngoddkdaaW.PrintLast
theorem trie_cases (l : List IN) : isTrieW l = false ∨ ∃ ws, VW ws ∧ l = trieW ws ∧ isTrieW l = true := by
  cases h : isTrieW l with
  | false => exact .inl rfl
  | true => obtain ⟨ws, hv, e⟩ := (isTrieW_iff l).1 h; exact .inr ⟨ws, hv, e, rfl⟩
theorem specT (l : List IN) {b : Bool} (h : isTrieW l = b) : Ev (fun k => spec_l2Trie.f k l) b := by rw [← h, ← trie_same]; exact trieS_ev l
theorem implT (l : List IN) {b : Bool} (h : isTrieW l = b) : Ev (fun k => impl_isTrie.f k l) b := h ▸ isTrie_ev l
theorem trie_le {ws : List ByteArray} (h : VW ws) : (trieW ws).length ≤ 481 := by
  have h2 := prefW_le ws (fun w hw => (h.ok w hw).1)
  have h3 := h.len
  rw [trieW_length]
  omega
theorem specWords {ws : List ByteArray} (h : VW ws) : Ev (fun k => spec_l2Words.f k (trieW ws)) ws := by
  have := wordsS_ev (trieW ws) (by have := trie_le h; omega)
  rwa [wordsS_trie h] at this
theorem implWords {ws : List ByteArray} (h : VW ws) : Ev (fun k => impl_Trie_words.f k (trieW ws)) ws := by
  have := words_ev (trieW ws) _ (prefixesW_trie h)
  rwa [wordsW_trie h.ss] at this
end Go.Proofs.Ytbedgcngoddkdaa.Q
namespace Go.Proofs.Ytbedgcngoddkdaa.Q
open Go.RowKit Go.Sort Go.Shelf Go.Proofs.YtbedgcngoddkdaaW.PrintWords Go.Proofs.YtbedgcngoddkdaaW.PrintLast Go.Proofs.YtbedgcngoddkdaaW.PrintMore
set_option linter.unusedVariables false
set_option linter.unusedSimpArgs false
def NoHit (l : List ByteArray) (p : ByteArray → Bool) (m : Nat) : Prop := ∀ j, j < m → p (rdOf ByteArray.empty l (j : Int)) = false
def Hit (l : List ByteArray) (p : ByteArray → Bool) (i : Int) : Prop := (i = -1 ∧ NoHit l p l.length) ∨ ∃ m : Nat, i = (m : Int) ∧ m < l.length ∧ p (rdOf ByteArray.empty l (m : Int)) = true ∧ NoHit l p m
theorem any_noHit {l : List ByteArray} {p : ByteArray → Bool} (h : NoHit l p l.length) : l.any p = false := by
  rw [List.any_eq_false]
  intro x hx
  obtain ⟨j, hj, rfl⟩ := List.getElem_of_mem hx
  have := h j hj
  simp [rdOf, hj] at this
  simp [this]
theorem any_ofHit {l : List ByteArray} {p : ByteArray → Bool} {m : Nat} (hm : m < l.length) (h : p (rdOf ByteArray.empty l (m : Int)) = true) : l.any p = true := by
  rw [List.any_eq_true]
  refine ⟨l[m], List.getElem_mem hm, ?_⟩
  simpa [rdOf, hm] using h
theorem Hit.any {l : List ByteArray} {p : ByteArray → Bool} {i : Int} (h : Hit l p i) : decide (0 ≤ i) = l.any p := by
  rcases h with ⟨rfl, h⟩ | ⟨m, rfl, hm, h, _⟩
  · rw [any_noHit h]; rfl
  · rw [any_ofHit hm h]; simp
end Go.Proofs.Ytbedgcngoddkdaa.Q
namespace Go.Proofs.Ytbedgcngoddkdaa.Q
open Go.RowKit Go.Proofs.YtbedgcngoddkdaaW.PrintWords Go.Proofs.YtbedgcngoddkdaaW.PrintLast Go.Proofs.YtbedgcngoddkdaaW.PrintMore
attribute [local go_sem] run_field_23 run_field_24 run_field_29 run_field_30 run_field_51 run_field_52 isSome_setCell max2_int min2_int max_two min_two max_three min_three max_four min_four   -- for this text's walks alone
set_option linter.unusedVariables false
set_option linter.unusedSimpArgs false
def spec_l2Begins.f (a0 : ByteArray) (a1 : ByteArray) : Option (Bool) := if (a0.size : Int) ≥ (a1.size : Int) then (if 0 ≤ (a1.size : Int) then (if (a1.size : Int) ≤ (a0.size : Int) then (some ((a0.extract 0 ((a1.size : Int) : Int).toNat).toList == a1.toList)) else (none)) else (none)) else (some false)
set_option maxHeartbeats 8000000 in
set_option maxRecDepth 100000 in
theorem spec_l2Begins.calls (a0 : ByteArray) (a1 : ByteArray) (r : Bool) (w : World) (h : spec_l2Begins.f a0 a1 = some r) :
    Calls Try.prog 100 #[.string a0, .string a1] w fun e w' => e = .returned (.bool r) ∧ Drawn0 w w' := by
  have H : (if (a0.size : Int) ≥ (a1.size : Int) then (if 0 ≤ (a1.size : Int) then (if (a1.size : Int) ≤ (a0.size : Int) then (some ((a0.extract 0 ((a1.size : Int) : Int).toNat).toList == a1.toList)) else (none)) else (none)) else (some false)) = some r := h
  clear h
  by_cases c3 : (a0.size : Int) ≥ (a1.size : Int)
  · rw [if_pos c3] at H
    have c3b0 : decide ((a1.size : Int) ≤ (a0.size : Int)) = true := decide_eq_true c3
    have c3b1 : decide (a1.size ≤ a0.size) = true := decide_eq_true (Int.ofNat_le.mp c3)
    clear c3
    by_cases c4 : 0 ≤ (a1.size : Int)
    · rw [if_pos c4] at H
      have c4b0 := eq_true c4
      have c4b1 : decide (0 ≤ (a1.size : Int)) = true := decide_eq_true c4
      clear c4
      by_cases c5 : (a1.size : Int) ≤ (a0.size : Int)
      · rw [if_pos c5] at H
        have c5b0 := eq_true c5
        have c5b1 : decide ((a1.size : Int) ≤ (a0.size : Int)) = true := decide_eq_true c5
        clear c5
        obtain rfl := Option.some.inj H
        go_enter Try.func100, Try.ntmps100
        go_wp2
        go_ret
        exact ⟨by first | rfl | (simp; done) | (simp [*]; done), by repeat (first | exact Drawn0.refl _ | apply Drawn0.step)⟩
      · rw [if_neg c5] at H
        exact absurd H (by simp)
    · rw [if_neg c4] at H
      exact absurd H (by simp)
  · rw [if_neg c3] at H
    have c3b0 : decide ((a1.size : Int) ≤ (a0.size : Int)) = false := decide_eq_false c3
    have c3b1 : decide (a1.size ≤ a0.size) = false := decide_eq_false (fun h => c3 (Int.ofNat_le.mpr h))
    clear c3
    obtain rfl := Option.some.inj H
    go_enter Try.func100, Try.ntmps100
    go_wp2
    go_ret
    exact ⟨by first | rfl | (simp; done) | (simp [*]; done), by repeat (first | exact Drawn0.refl _ | apply Drawn0.step)⟩
end Go.Proofs.Ytbedgcngoddkdaa.Q
namespace Go.Proofs.Ytbedgcngoddkdaa.Q
open Go.RowKit Go.Proofs.YtbedgcngoddkdaaW.PrintWords Go.Proofs.YtbedgcngoddkdaaW.PrintLast Go.Proofs.YtbedgcngoddkdaaW.PrintMore
attribute [local go_sem] run_field_23 run_field_24 run_field_29 run_field_30 run_field_51 run_field_52 isSome_setCell max2_int min2_int max_two min_two max_three min_three max_four min_four   -- for this text's walks alone
set_option linter.unusedVariables false
set_option linter.unusedSimpArgs false
def spec_l3Under.l0 : Nat → List ByteArray → ByteArray → List ByteArray → Int → Option (List ByteArray)
  | 0, _, _, _, _ => none
  | k + 1, x0, x1, x5, x6 => if x6 < (x0.length : Int) then (if 0 ≤ x6 then ((spec_l2Begins.f (rdOf ByteArray.empty x0 x6) x1).bind fun t431 => (if t431 = true then (if x5.length < 8796093022208 then (spec_l3Under.l0 k x0 x1 (x5 ++ [rdOf ByteArray.empty x0 x6]) (wrap64 (x6 + 1))) else (none)) else (spec_l3Under.l0 k x0 x1 x5 (wrap64 (x6 + 1))))) else (none)) else (some x5)
def spec_l3Under.f (k : Nat) (l0 : List ByteArray) (a1 : ByteArray) : Option (List ByteArray) := spec_l3Under.l0 k l0 a1 (([] : List ByteArray)) 0
set_option maxHeartbeats 8000000 in
set_option maxRecDepth 100000 in
theorem spec_l3Under.calls (k : Nat) (A0 : Option Addr) (c0 : Nat) (l0 : List ByteArray) (a1 : ByteArray) (r : List ByteArray) (w : World) (hr0 : Kd.C Kd.string w A0 l0.length l0) (hc0 : l0.length ≤ c0) (h : spec_l3Under.f k l0 a1 = some r) :
    Calls Try.prog 99 #[.slice A0 l0.length c0, .string a1] w fun e w' => ∃ v0_ : Value, e = .returned (v0_) ∧ Kd.R Kd.string 9 w' w.heap.size (fun _ => True) v0_ r ∧ Below w.heap.size w w' := by
  have HR0 := Aside0.mk hr0
  have HC0 := Aside0.mk hc0
  clear hr0 hc0
  have HB := Aside0.mk (Below.refl w.heap.size w)
  have H : (spec_l3Under.l0 k l0 a1 (([] : List ByteArray)) 0) = some r := h
  clear h
  obtain ⟨y427, hy427⟩ : ∃ y_ : List ByteArray, y_ = (([] : List ByteArray)) := ⟨_, rfl⟩
  replace H : (spec_l3Under.l0 k l0 a1 y427 0) = some r := by first | (rw [hy427]; with_reducible exact H) | (have H2_ := (Option.bind_some _ _).symm.trans H; rw [hy427]; with_reducible exact H2_) | (have H2_ := (Option.bind_some _ _).symm.trans H; with_reducible exact H2_) | with_reducible exact H | (rw [hy427]; exact H) | exact H
  have Ny427 := Aside0.mk hy427
  clear hy427
  have H' := Aside0.mk H
  clear H
  go_enter Try.func99, Try.ntmps99
  go_wp2_with (first | ((with_reducible refine gate_dst (N := 7) rfl ?_); refine Kd.R_lit Kd.string _ 9 ?hg (N := 7) ?hd (xs := ([] : List ByteArray)) (inner := []) (ok := fun _ => True) (okp := fun _ => True) ?hr ?hp (fun _ hk => hk) trivial (Below.refl _ _) (Nat.le_refl _) (by simp) ?_; (case hd => rfl); (case hg => rfl); (case hr => first | (go_simp; done) | (go_simp; rfl)); (case hp => exact (Reps.none _ _)); intro v428 w3 ho4 hb hg_ hnew_; clear hg_ hnew_; (first | rw [← Ny427.out] at ho4 | (simp only [Int.reduceToNat] at ho4; rw [← Ny427.out] at ho4)); have n0_ := Aside0.mk (Kd.R_lower ho4 (below_size (by repeat (first | (with_reducible first | exact HB.out | apply below_alloc | apply pw_below_drewN | apply below_drew1) | exact HB.out)))); have n1_ := Aside0.mk (below_step (by repeat (first | (with_reducible first | exact HB.out | apply below_alloc | apply pw_below_drewN | apply below_drew1) | exact HB.out)) hb); clear HB; have HO429 := n0_; have HB := n1_; clear n0_ n1_; clear hb ho4))
  go_loopg [5, 6] k (fun kq v5 v6 w' => ∃ (x5_1 : List ByteArray) (x6_1 : Int), v6 = .int .i64 x6_1 ∧ Aside0 (spec_l3Under.l0 kq l0 a1 x5_1 x6_1 = some r) ∧ Aside0 (kq ≤ k) ∧ Aside0 (Kd.R Kd.string 9 w' w.heap.size (fun _ => True) v5 x5_1) ∧ Aside0 (Below w.heap.size w w'))
  case atStart => exact ⟨(y427), (0), (by first | rfl | (simp; done) | (simp [*]; done)), H', ⟨Nat.le_refl _⟩, ⟨by (with_reducible repeat (first | apply Kd.R_alloc | apply Kd.R_drewN | apply Kd.R_drew)); exact HO429.out⟩, ⟨by repeat (first | (with_reducible first | exact HB.out | apply below_alloc | apply pw_below_drewN | apply below_drew1) | exact HB.out)⟩⟩
  case round =>
    clear H'
    try clear p2
    obtain ⟨x5_1, x6_1, rfl, HA, HK1, HO_5, HB⟩ := hrel
    cases gk with
    | zero => exact absurd HA.out (by simp [spec_l3Under.l0])
    | succ k1 =>
      have H := HA.out
      clear HA
      simp only [spec_l3Under.l0] at H
      by_cases c5 : x6_1 < (l0.length : Int)
      · rw [if_pos c5] at H
        have c5b0 : decide (x6_1 < (l0.length : Int)) = true := decide_eq_true c5
        clear c5
        by_cases c6 : 0 ≤ x6_1
        · rw [if_pos c6] at H
          have c6b0 : decide (0 ≤ x6_1) = true := decide_eq_true c6
          clear c6
          replace H := Option.bind_eq_some_iff.mp H
          obtain ⟨t431, A70, H⟩ := H
          replace H : (if t431 = true then (if x5_1.length < 8796093022208 then (spec_l3Under.l0 k1 l0 a1 (x5_1 ++ [rdOf ByteArray.empty l0 x6_1]) (wrap64 (x6_1 + 1))) else (none)) else (spec_l3Under.l0 k1 l0 a1 x5_1 (wrap64 (x6_1 + 1)))) = some r := H
          have A7 := Aside0.mk A70
          clear A70
          by_cases c8 : t431 = true
          · subst c8
            have H1 : (if x5_1.length < 8796093022208 then (spec_l3Under.l0 k1 l0 a1 (x5_1 ++ [rdOf ByteArray.empty l0 x6_1]) (wrap64 (x6_1 + 1))) else (none)) = some r := by rw [if_pos rfl] at H; exact H
            clear H
            have H := H1
            clear H1
            by_cases c9 : x5_1.length < 8796093022208
            · rw [if_pos c9] at H
              have LMc9 := Aside0.mk c9
              clear c9
              obtain ⟨y433, hy433⟩ : ∃ y_ : List ByteArray, y_ = (x5_1 ++ [rdOf ByteArray.empty l0 x6_1]) := ⟨_, rfl⟩
              replace H : (spec_l3Under.l0 k1 l0 a1 y433 (wrap64 (x6_1 + 1))) = some r := by first | (rw [hy433]; with_reducible exact H) | (have H2_ := (Option.bind_some _ _).symm.trans H; rw [hy433]; with_reducible exact H2_) | (have H2_ := (Option.bind_some _ _).symm.trans H; with_reducible exact H2_) | with_reducible exact H | (rw [hy433]; exact H) | exact H
              have Ny433 := Aside0.mk hy433
              clear hy433
              have H' := Aside0.mk H
              clear H
              have p430 : 0 ≤ (x6_1 : Int) := of_decide_eq_true (by first | (with_reducible assumption) | assumption)
              have q430 : x6_1 < (l0.length : Int) := of_decide_eq_true (by first | (with_reducible assumption) | assumption)
              obtain ⟨ad430, e430, hx430_0⟩ := Kd.at_string HR0.out x6_1 p430 q430
              cases e430
              replace hx430_0 := (HB.out.cell (World.block_lt_of_cell? w _ hx430_0)).trans hx430_0
              replace p430 := eq_true p430
              replace q430 := eq_true q430
              go_wp2_with (first | ((with_reducible refine gate_callee (f := 100) rfl ?_); refine goesL_ (some 19) rfl rfl Try.func100 (by kernel_rfl) rfl #[.string (rdOf ByteArray.empty l0 x6_1), .string a1] rfl (by (try simp only [List.map_toArray, List.map_cons, List.map_nil]); first | done | rfl | (simp only [List.length_drop, List.length_take]; rfl)) ?_; (with_reducible refine (spec_l2Begins.calls (rdOf ByteArray.empty l0 x6_1) a1 true _ A7.out).mono ?_); rintro e w' ⟨rfl, ⟨nd, rfl⟩⟩; refine ⟨_, rfl, ?_⟩; have p432 : 0 ≤ (x6_1 : Int) := of_decide_eq_true (by first | (with_reducible assumption) | assumption); have q432 : x6_1 < (l0.length : Int) := of_decide_eq_true (by first | (with_reducible assumption) | assumption); obtain ⟨ad432, e432, hx432_0⟩ := Kd.at_string HR0.out x6_1 p432 q432; obtain rfl : ad430 = ad432 := (by injection e432); replace hx432_0 := (HB.out.cell (World.block_lt_of_cell? w _ hx432_0)).trans hx432_0; replace p432 := eq_true p432; replace q432 := eq_true q432) | ((with_reducible refine gate_builtin (b := .append) (xs := #[.tmp 20, .tmp 25]) rfl ?_); at_builtin; refine Kd.R_append Kd.string (w0 := w) w.heap.size rfl (.tmp 20) (.tmp 25) 59 9 (.string ⟨#[]⟩) 16 rfl Try.underlying59 info9 rfl (by decide) (by omega) u5 x5_1 (rdOf ByteArray.empty l0 x6_1) [.string (rdOf ByteArray.empty l0 x6_1)] (fun _ => True) (fun _ => False) rfl rfl ?aP (fun _ hk => hk.elim) ?aF ?aO ?aB ?aS ?aL ?_; (case aP => exact rfl); (case aB => exact (by repeat (first | (with_reducible first | exact HB.out | apply below_alloc | apply pw_below_drewN | apply below_drew1) | exact HB.out))); (case aF => exact (fun _ _ => trivial)); (case aO => exact (by (with_reducible repeat (first | apply Kd.R_alloc | apply Kd.R_drewN | apply Kd.R_drew)); exact HO_5.out)); (case aS => exact (below_size (by repeat (first | (with_reducible first | exact HB.out | apply below_alloc | apply pw_below_drewN | apply below_drew1) | exact HB.out)))); (case aL => have := LMc9.out; omega); intro v434 w10 ho hb hg hat; rw [← Ny433.out] at ho; have n0_ := Aside0.mk (hb); have n1_ := Aside0.mk (ho); clear HB; clear HO_5; have HB := n0_; have HO435 := n1_; clear n0_ n1_; clear ho hb hg hat))
              go_roundg k1
              case measure => have := HK1.out; omega
              case rel => exact ⟨(y433), (wrap64 (x6_1 + 1)), (by first | rfl | (simp; done) | (simp [*]; done)), H', ⟨by have := HK1.out; omega⟩, ⟨by (with_reducible repeat (first | apply Kd.R_alloc | apply Kd.R_drewN | apply Kd.R_drew)); exact HO435.out⟩, ⟨by repeat (first | (with_reducible first | exact HB.out | apply below_alloc | apply pw_below_drewN | apply below_drew1) | exact HB.out)⟩⟩
            · rw [if_neg c9] at H
              exact absurd H (by simp)
          · replace c8 := Bool.eq_false_iff.mpr c8
            subst c8
            have H1 : (spec_l3Under.l0 k1 l0 a1 x5_1 (wrap64 (x6_1 + 1))) = some r := by rw [if_neg (show ¬ (false = true) by decide)] at H; exact H
            clear H
            have H := H1
            clear H1
            have H' := Aside0.mk H
            clear H
            have p430 : 0 ≤ (x6_1 : Int) := of_decide_eq_true (by first | (with_reducible assumption) | assumption)
            have q430 : x6_1 < (l0.length : Int) := of_decide_eq_true (by first | (with_reducible assumption) | assumption)
            obtain ⟨ad430, e430, hx430_0⟩ := Kd.at_string HR0.out x6_1 p430 q430
            cases e430
            replace hx430_0 := (HB.out.cell (World.block_lt_of_cell? w _ hx430_0)).trans hx430_0
            replace p430 := eq_true p430
            replace q430 := eq_true q430
            go_wp2_with (first | ((with_reducible refine gate_callee (f := 100) rfl ?_); refine goesL_ (some 19) rfl rfl Try.func100 (by kernel_rfl) rfl #[.string (rdOf ByteArray.empty l0 x6_1), .string a1] rfl (by (try simp only [List.map_toArray, List.map_cons, List.map_nil]); first | done | rfl | (simp only [List.length_drop, List.length_take]; rfl)) ?_; (with_reducible refine (spec_l2Begins.calls (rdOf ByteArray.empty l0 x6_1) a1 false _ A7.out).mono ?_); rintro e w' ⟨rfl, ⟨nd, rfl⟩⟩; refine ⟨_, rfl, ?_⟩))
            go_roundg k1
            case measure => have := HK1.out; omega
            case rel => exact ⟨(x5_1), (wrap64 (x6_1 + 1)), (by first | rfl | (simp; done) | (simp [*]; done)), H', ⟨by have := HK1.out; omega⟩, ⟨by (with_reducible repeat (first | apply Kd.R_alloc | apply Kd.R_drewN | apply Kd.R_drew)); exact HO_5.out⟩, ⟨by repeat (first | (with_reducible first | exact HB.out | apply below_alloc | apply pw_below_drewN | apply below_drew1) | exact HB.out)⟩⟩
        · rw [if_neg c6] at H
          exact absurd H (by simp)
      · rw [if_neg c5] at H
        have c5b0 : decide (x6_1 < (l0.length : Int)) = false := decide_eq_false c5
        clear c5
        obtain rfl := Option.some.inj H
        go_wp2
        go_ret
        exact ⟨_, by first | rfl | (simp [errW_none, errW_some] <;> rfl) | (simp [*, errW_none, errW_some] <;> rfl), by (with_reducible repeat (first | apply Kd.R_alloc | apply Kd.R_drewN | apply Kd.R_drew)); exact HO_5.out, by repeat (first | (with_reducible first | exact HB.out | apply below_alloc | apply pw_below_drewN | apply below_drew1) | exact HB.out)⟩
def spec_l3Shared.l0 : Nat → List ByteArray → ByteArray → Option (ByteArray)
  | 0, _, _ => none
  | k + 1, x0, x3 => (spec_l3Under.f k x0 x3).bind fun t437 => (if (t437.length : Int) < (x0.length : Int) then (if 0 ≤ (wrap64 ((x3.size : Int) - 1)) then (if (wrap64 ((x3.size : Int) - 1)) ≤ (x3.size : Int) then (spec_l3Shared.l0 k x0 (x3.extract 0 ((wrap64 ((x3.size : Int) - 1)) : Int).toNat)) else (none)) else (none)) else (some x3))
def spec_l3Shared.f (k : Nat) (l0 : List ByteArray) : Option (ByteArray) := if 0 < (l0.length : Int) then (spec_l3Shared.l0 k l0 (rdOf ByteArray.empty l0 0)) else (none)
set_option maxHeartbeats 8000000 in
set_option maxRecDepth 100000 in
theorem spec_l3Shared.calls (k : Nat) (A0 : Option Addr) (c0 : Nat) (l0 : List ByteArray) (r : ByteArray) (w : World) (hr0 : Kd.C Kd.string w A0 l0.length l0) (hc0 : l0.length ≤ c0) (h : spec_l3Shared.f k l0 = some r) :
    Calls Try.prog 64 #[.slice A0 l0.length c0] w fun e w' => e = .returned (.string r) ∧ Below w.heap.size w w' := by
  have HR0 := Aside0.mk hr0
  have HC0 := Aside0.mk hc0
  clear hr0 hc0
  have HB := Aside0.mk (Below.refl w.heap.size w)
  have H : (if 0 < (l0.length : Int) then (spec_l3Shared.l0 k l0 (rdOf ByteArray.empty l0 0)) else (none)) = some r := h
  clear h
  by_cases c2 : 0 < (l0.length : Int)
  · rw [if_pos c2] at H
    have c2b0 : decide (0 < (l0.length : Int)) = true := decide_eq_true c2
    have c2b1 : decide (0 < l0.length) = true := decide_eq_true (by omega)
    clear c2
    have H' := Aside0.mk H
    clear H
    have p436 : 0 ≤ (0 : Int) := (by omega)
    have q436 : 0 < (l0.length : Int) := of_decide_eq_true (by first | (with_reducible assumption) | assumption)
    obtain ⟨ad436, e436, hx436_0⟩ := Kd.at_string HR0.out 0 p436 q436
    cases e436
    have qi436 : (0 < l0.length) = True := eq_true (by omega)
    (try rw [show ((0 : Int)).toNat = 0 from rfl] at hx436_0)
    (try rw [Addr.add_zero'] at hx436_0)
    replace p436 := eq_true p436
    replace q436 := eq_true q436
    go_enter Try.func64, Try.ntmps64
    go_wp2
    go_loopg [3] k (fun kq v3 w' => ∃ (x3_1 : ByteArray), v3 = .string x3_1 ∧ Aside0 (spec_l3Shared.l0 kq l0 x3_1 = some r) ∧ Aside0 (kq ≤ k) ∧ Aside0 (Below w.heap.size w w'))
    case atStart => exact ⟨(rdOf ByteArray.empty l0 0), (by first | rfl | (simp; done) | (simp [*]; done)), H', ⟨Nat.le_refl _⟩, ⟨by repeat (first | (with_reducible first | exact HB.out | apply below_alloc | apply pw_below_drewN | apply below_drew1) | exact HB.out)⟩⟩
    case round =>
      clear H'
      try clear c2
      try clear c2b0
      try clear c2b1
      try clear p2
      try clear hx436_0
      try clear p436
      try clear q436
      obtain ⟨x3_1, rfl, HA, HK1, HB⟩ := hrel
      cases gk with
      | zero => exact absurd HA.out (by simp [spec_l3Shared.l0])
      | succ k1 =>
        have H := HA.out
        clear HA
        simp only [spec_l3Shared.l0] at H
        replace H := Option.bind_eq_some_iff.mp H
        obtain ⟨t437, A30, H⟩ := H
        replace H : (if (t437.length : Int) < (l0.length : Int) then (if 0 ≤ (wrap64 ((x3_1.size : Int) - 1)) then (if (wrap64 ((x3_1.size : Int) - 1)) ≤ (x3_1.size : Int) then (spec_l3Shared.l0 k1 l0 (x3_1.extract 0 ((wrap64 ((x3_1.size : Int) - 1)) : Int).toNat)) else (none)) else (none)) else (some x3_1)) = some r := H
        have A3 := Aside0.mk A30
        clear A30
        by_cases c4 : (t437.length : Int) < (l0.length : Int)
        · rw [if_pos c4] at H
          have c4b0 : decide ((t437.length : Int) < (l0.length : Int)) = true := decide_eq_true c4
          have c4b1 : decide (t437.length < l0.length) = true := decide_eq_true (Int.ofNat_lt.mp c4)
          clear c4
          obtain ⟨ji5, hji5⟩ : ∃ j_ : Int, (wrap64 ((x3_1.size : Int) - 1)) = j_ := ⟨_, rfl⟩
          replace H : (if 0 ≤ (ji5) then (if (ji5) ≤ (x3_1.size : Int) then (spec_l3Shared.l0 k1 l0 (x3_1.extract 0 ((ji5) : Int).toNat)) else (none)) else (none)) = some r := by first | (rw [hji5] at H; exact H) | (simp only [hji5] at H ⊢; exact H)
          (try rw [hji5] at A3)
          have hji5w : (IntKind.i64.wrap ((x3_1.size : Int) - 1)) = ji5 := (i64_w _).trans hji5
          by_cases c6 : 0 ≤ (ji5)
          · rw [if_pos c6] at H
            have c6b0 := eq_true c6
            have c6b1 : decide (0 ≤ (ji5)) = true := decide_eq_true c6
            clear c6
            by_cases c7 : (ji5) ≤ (x3_1.size : Int)
            · rw [if_pos c7] at H
              have c7b0 := eq_true c7
              have c7b1 : decide ((ji5) ≤ (x3_1.size : Int)) = true := decide_eq_true c7
              clear c7
              have H' := Aside0.mk H
              clear H
              go_wp2_with (first | ((with_reducible refine gate_callee (f := 99) rfl ?_); refine goesL_ (some 9) rfl rfl Try.func99 (by kernel_rfl) rfl #[.slice (some ad436) l0.length c0, .string x3_1] rfl (by (try simp only [List.map_toArray, List.map_cons, List.map_nil]); first | done | rfl | (simp only [List.length_drop, List.length_take]; rfl)) ?_; (with_reducible refine (spec_l3Under.calls k1 _ _ l0 x3_1 t437 _ ?side1 ?side2 A3.out).mono ?_); (case side1 => repeat (first | exact (Kd.C_below HR0.out HB.out) | (with_reducible refine Kd.C_alloc ?_ _) | (with_reducible refine Kd.C_drewN ?_ _) | (with_reducible refine Kd.C_drew ?_))); (case side2 => exact HC0.out); rintro e w8 ⟨v438, rfl, ho0, hb⟩; refine ⟨_, rfl, ?_⟩; have n0_ := Aside0.mk (Kd.R_lower ho0 (below_size (by repeat (first | (with_reducible first | exact HB.out | apply below_alloc | apply pw_below_drewN | apply below_drew1) | exact HB.out)))); have n1_ := Aside0.mk (below_step (by repeat (first | (with_reducible first | exact HB.out | apply below_alloc | apply pw_below_drewN | apply below_drew1) | exact HB.out)) hb); clear HB; have HO439 := n0_; have HB := n1_; clear n0_ n1_; (try clear hb); (try clear hb2); (try clear hk); (try clear hi); (try clear ho0); obtain ⟨Ao9, co9, eo9⟩ := Kd.R_slice HO439.out; subst eo9))
              go_roundg k1
              case measure => have := HK1.out; omega
              case rel => exact ⟨(x3_1.extract 0 ((ji5) : Int).toNat), (by first | rfl | (simp; done) | (simp only [← hji5] <;> (first | rfl | simp)) | (simp [*]; done)), H', ⟨by have := HK1.out; omega⟩, ⟨by repeat (first | (with_reducible first | exact HB.out | apply below_alloc | apply pw_below_drewN | apply below_drew1) | exact HB.out)⟩⟩
            · rw [if_neg c7] at H
              exact absurd H (by simp)
          · rw [if_neg c6] at H
            exact absurd H (by simp)
        · rw [if_neg c4] at H
          have c4b0 : decide ((t437.length : Int) < (l0.length : Int)) = false := decide_eq_false c4
          have c4b1 : decide (t437.length < l0.length) = false := decide_eq_false (fun h => c4 (Int.ofNat_lt.mpr h))
          clear c4
          obtain rfl := Option.some.inj H
          go_wp2_with (first | ((with_reducible refine gate_callee (f := 99) rfl ?_); refine goesL_ (some 9) rfl rfl Try.func99 (by kernel_rfl) rfl #[.slice (some ad436) l0.length c0, .string x3_1] rfl (by (try simp only [List.map_toArray, List.map_cons, List.map_nil]); first | done | rfl | (simp only [List.length_drop, List.length_take]; rfl)) ?_; (with_reducible refine (spec_l3Under.calls k1 _ _ l0 x3_1 t437 _ ?side1 ?side2 A3.out).mono ?_); (case side1 => repeat (first | exact (Kd.C_below HR0.out HB.out) | (with_reducible refine Kd.C_alloc ?_ _) | (with_reducible refine Kd.C_drewN ?_ _) | (with_reducible refine Kd.C_drew ?_))); (case side2 => exact HC0.out); rintro e w10 ⟨v438, rfl, ho0, hb⟩; refine ⟨_, rfl, ?_⟩; have n0_ := Aside0.mk (Kd.R_lower ho0 (below_size (by repeat (first | (with_reducible first | exact HB.out | apply below_alloc | apply pw_below_drewN | apply below_drew1) | exact HB.out)))); have n1_ := Aside0.mk (below_step (by repeat (first | (with_reducible first | exact HB.out | apply below_alloc | apply pw_below_drewN | apply below_drew1) | exact HB.out)) hb); clear HB; have HO439 := n0_; have HB := n1_; clear n0_ n1_; (try clear hb); (try clear hb2); (try clear hk); (try clear hi); (try clear ho0); obtain ⟨Ao11, co11, eo11⟩ := Kd.R_slice HO439.out; subst eo11))
          go_ret
          exact ⟨by first | rfl | (simp [errW_none, errW_some] <;> rfl) | (simp [*, errW_none, errW_some] <;> rfl), by repeat (first | (with_reducible first | exact HB.out | apply below_alloc | apply pw_below_drewN | apply below_drew1) | exact HB.out)⟩
  · rw [if_neg c2] at H
    exact absurd H (by simp)
def spec_SharedPrefix.j0 : Nat → Bool → List (S86) → Option (ByteArray × Bool)
  | 0, _, _ => none
  | k + 1, x12, x441000 => if x12 = true then (some ((⟨#[]⟩ : ByteArray), false)) else ((spec_l2Words.f k x441000).bind fun t445 => ((spec_l3Shared.f k t445).bind fun t448 => (some (t448, true))))
def spec_SharedPrefix.f (k : Nat) (l0_0 : List (S86)) : Option (ByteArray × Bool) := (spec_l2Trie.f k l0_0).bind fun t441 => (if t441 = true then ((spec_l2Words.f k l0_0).bind fun t442 => (spec_SharedPrefix.j0 k ((t442.length : Int) == 0) l0_0)) else (spec_SharedPrefix.j0 k true l0_0))
set_option maxHeartbeats 8000000 in
set_option maxRecDepth 100000 in
theorem spec_SharedPrefix.calls (k : Nat) (A0_0 : Option Addr) (c0_0 : Nat) (l0_0 : List (S86)) (r1 : ByteArray) (r2 : Bool) (w : World) (hr0_0 : Kd.C k86 w A0_0 l0_0.length l0_0) (hc0_0 : l0_0.length ≤ c0_0) (h : spec_SharedPrefix.f k l0_0 = some (r1, r2)) :
    Calls Try.prog 22 #[.agg #[.slice A0_0 l0_0.length c0_0]] w fun e w' => e = .returned (.tuple #[.string r1, .bool r2]) ∧ Below w.heap.size w w' := by
  have hu30 := Try.underlying30
  have HR0_0 := Aside0.mk hr0_0
  have HC0_0 := Aside0.mk hc0_0
  clear hr0_0 hc0_0
  have HB := Aside0.mk (Below.refl w.heap.size w)
  have H : ((spec_l2Trie.f k l0_0).bind fun t441 => (if t441 = true then ((spec_l2Words.f k l0_0).bind fun t442 => (spec_SharedPrefix.j0 k ((t442.length : Int) == 0) l0_0)) else (spec_SharedPrefix.j0 k true l0_0))) = some (r1, r2) := h
  clear h
  have HC2 := Aside0.mk H
  clear H
  go_enter Try.func22, Try.ntmps22
  go_upto_region 1 with (first | ((with_reducible refine gate_dst (N := 1) rfl ?_); (try (refine gate_guard (by rfl) ?_; dsimp only)); refine box_event ?hg (N := 1) ?hd (cs := #[.slice A0_0 l0_0.length c0_0]) (t := 30) ?hr ?_; (case hd => rfl); (case hg => rfl); (case hr => first | (go_simp; done) | (go_simp; rfl)); intro gb440 hg w3 hbox hb; have n0_ := Aside0.mk (below_step (by repeat (first | (with_reducible first | exact HB.out | apply below_alloc | apply pw_below_drewN | apply below_drew1) | exact HB.out)) hb); have n1_ := Aside0.mk (hbox); have n2_ := Aside0.mk ((by rw [hg]; exact (below_size (by repeat (first | (with_reducible first | exact HB.out | apply below_alloc | apply pw_below_drewN | apply below_drew1) | exact HB.out))) : w.heap.size ≤ gb440)); have n3_ := Aside0.mk ((by rw [hg]; exact (below_size (by repeat (first | (with_reducible first | exact HB.out | apply below_alloc | apply pw_below_drewN | apply below_drew1) | exact HB.out))) : w.heap.size ≤ gb440)); clear HB; have HB := n0_; have BK440 := n1_; have GW440 := n2_; have GE440 := n3_; clear n0_ n1_ n2_ n3_; clear hb hbox hg))
  (try simp only [Act.put, List.setIfInBounds_toArray, List.set_cons_zero, List.set_cons_succ])
  go_cut [12] (fun v12 wc => ∃ (kq : Nat) (x12_1 : Bool), v12 = .bool x12_1 ∧ Aside0 (spec_SharedPrefix.j0 kq x12_1 l0_0 = some (r1, r2)) ∧ Aside0 (kq ≤ k) ∧ Aside0 (wc.heap[gb440]? = some (.cells #[(.slice A0_0 l0_0.length c0_0)] 30 (0, 0))) ∧ Aside0 (Below w.heap.size w wc))
  case first =>
    have H := HC2.out
    clear HC2
    replace H := Option.bind_eq_some_iff.mp H
    obtain ⟨t441, A40, H⟩ := H
    replace H : (if t441 = true then ((spec_l2Words.f k l0_0).bind fun t442 => (spec_SharedPrefix.j0 k ((t442.length : Int) == 0) l0_0)) else (spec_SharedPrefix.j0 k true l0_0)) = some (r1, r2) := H
    have A4 := Aside0.mk A40
    clear A40
    by_cases c5 : t441 = true
    · subst c5
      have H1 : ((spec_l2Words.f k l0_0).bind fun t442 => (spec_SharedPrefix.j0 k ((t442.length : Int) == 0) l0_0)) = some (r1, r2) := by rw [if_pos rfl] at H; exact H
      clear H
      have H := H1
      clear H1
      replace H := Option.bind_eq_some_iff.mp H
      obtain ⟨t442, A60, H⟩ := H
      replace H : (spec_SharedPrefix.j0 k ((t442.length : Int) == 0) l0_0) = some (r1, r2) := H
      have A6 := Aside0.mk A60
      clear A60
      have H' := Aside0.mk H
      clear H
      have hcz7_0 : w3.cell? ⟨gb440, 0, none⟩ = some (.slice A0_0 l0_0.length c0_0) := (blk_cell BK440.out 0).trans rfl
      have hfz7_0 := blk_frozen BK440.out 0
      go_wp2_with (first | ((with_reducible refine gate_callee (f := 51) rfl ?_); refine goesL_ (some 5) rfl rfl Try.func51 (by kernel_rfl) rfl #[.agg #[.slice A0_0 l0_0.length c0_0]] rfl (by (try simp only [List.map_toArray, List.map_cons, List.map_nil]); first | done | rfl | (simp only [List.length_drop, List.length_take]; rfl)) ?_; (with_reducible refine (spec_l2Trie.calls k _ _ l0_0 true _ ?side1 ?side2 A4.out).mono ?_); (case side1 => repeat (first | exact (Kd.C_below HR0_0.out HB.out) | (with_reducible refine Kd.C_alloc ?_ _) | (with_reducible refine Kd.C_drewN ?_ _) | (with_reducible refine Kd.C_drew ?_))); (case side2 => exact HC0_0.out); rintro e w8 ⟨rfl, hb⟩; refine ⟨_, rfl, ?_⟩; have n0_ := Aside0.mk (blk_below (g := gb440) (o := .cells #[.slice A0_0 l0_0.length c0_0] 30 (0, 0)) (by (with_reducible repeat (first | refine blk_drewN ?_ _ | refine blk_drew ?_ | refine blk_alloc ?_ _)); exact BK440.out) hb); have n1_ := Aside0.mk (below_step (by repeat (first | (with_reducible first | exact HB.out | apply below_alloc | apply pw_below_drewN | apply below_drew1 | refine below_set ?_ GE440.out) | exact HB.out)) hb); clear BK440; clear HB; have BK440 := n0_; have HB := n1_; clear n0_ n1_; (try clear hb); (try clear hb2); (try clear hk); (try clear hi); have hcz9_0 : w8.cell? ⟨gb440, 0, none⟩ = some (.slice A0_0 l0_0.length c0_0) := (blk_cell BK440.out 0).trans rfl; have hfz9_0 := blk_frozen BK440.out 0) | (go_at_call 53; (with_reducible refine (spec_l2Words.calls k _ _ l0_0 t442 _ ?side1 ?side2 A6.out).mono ?_); (case side1 => repeat (first | exact (Kd.C_below HR0_0.out HB.out) | (with_reducible refine Kd.C_alloc ?_ _) | (with_reducible refine Kd.C_drewN ?_ _) | (with_reducible refine Kd.C_drew ?_))); (case side2 => exact HC0_0.out); rintro e w10 ⟨v443, rfl, ho0, hb⟩; have n0_ := Aside0.mk (Kd.R_lower ho0 (below_size (by repeat (first | (with_reducible first | exact HB.out | apply below_alloc | apply pw_below_drewN | apply below_drew1 | refine below_set ?_ GE440.out) | exact HB.out)))); have n1_ := Aside0.mk (blk_below (g := gb440) (o := .cells #[.slice A0_0 l0_0.length c0_0] 30 (0, 0)) (by (with_reducible repeat (first | refine blk_drewN ?_ _ | refine blk_drew ?_ | refine blk_alloc ?_ _)); exact BK440.out) hb); have n2_ := Aside0.mk (below_step (by repeat (first | (with_reducible first | exact HB.out | apply below_alloc | apply pw_below_drewN | apply below_drew1 | refine below_set ?_ GE440.out) | exact HB.out)) hb); clear BK440; clear HB; have HO444 := n0_; have BK440 := n1_; have HB := n2_; clear n0_ n1_ n2_; (try clear hb); (try clear hb2); (try clear hk); (try clear hi); (try clear ho0); obtain ⟨Ao11, co11, eo11⟩ := Kd.R_slice HO444.out; subst eo11))
      go_meet
      case rel => exact ⟨_, (((t442.length : Int) == 0)), (by first | rfl | (simp; done) | (simp [*]; done)), H', ⟨by first | omega | exact Nat.le_refl _⟩, ⟨by (with_reducible repeat (first | refine blk_drewN ?_ _ | refine blk_drew ?_ | refine blk_alloc ?_ _)); exact BK440.out⟩, ⟨by repeat (first | (with_reducible first | exact HB.out | apply below_alloc | apply pw_below_drewN | apply below_drew1 | refine below_set ?_ GE440.out) | exact HB.out)⟩⟩
    · replace c5 := Bool.eq_false_iff.mpr c5
      subst c5
      have H1 : (spec_SharedPrefix.j0 k true l0_0) = some (r1, r2) := by rw [if_neg (show ¬ (false = true) by decide)] at H; exact H
      clear H
      have H := H1
      clear H1
      have H' := Aside0.mk H
      clear H
      have hcz12_0 : w3.cell? ⟨gb440, 0, none⟩ = some (.slice A0_0 l0_0.length c0_0) := (blk_cell BK440.out 0).trans rfl
      have hfz12_0 := blk_frozen BK440.out 0
      go_wp2_with (first | ((with_reducible refine gate_callee (f := 51) rfl ?_); refine goesL_ (some 5) rfl rfl Try.func51 (by kernel_rfl) rfl #[.agg #[.slice A0_0 l0_0.length c0_0]] rfl (by (try simp only [List.map_toArray, List.map_cons, List.map_nil]); first | done | rfl | (simp only [List.length_drop, List.length_take]; rfl)) ?_; (with_reducible refine (spec_l2Trie.calls k _ _ l0_0 false _ ?side1 ?side2 A4.out).mono ?_); (case side1 => repeat (first | exact (Kd.C_below HR0_0.out HB.out) | (with_reducible refine Kd.C_alloc ?_ _) | (with_reducible refine Kd.C_drewN ?_ _) | (with_reducible refine Kd.C_drew ?_))); (case side2 => exact HC0_0.out); rintro e w13 ⟨rfl, hb⟩; refine ⟨_, rfl, ?_⟩; have n0_ := Aside0.mk (blk_below (g := gb440) (o := .cells #[.slice A0_0 l0_0.length c0_0] 30 (0, 0)) (by (with_reducible repeat (first | refine blk_drewN ?_ _ | refine blk_drew ?_ | refine blk_alloc ?_ _)); exact BK440.out) hb); have n1_ := Aside0.mk (below_step (by repeat (first | (with_reducible first | exact HB.out | apply below_alloc | apply pw_below_drewN | apply below_drew1 | refine below_set ?_ GE440.out) | exact HB.out)) hb); clear BK440; clear HB; have BK440 := n0_; have HB := n1_; clear n0_ n1_; (try clear hb); (try clear hb2); (try clear hk); (try clear hi)))
      go_meet
      case rel => exact ⟨_, (true), (by first | rfl | (simp; done) | (simp [*]; done)), H', ⟨by first | omega | exact Nat.le_refl _⟩, ⟨by (with_reducible repeat (first | refine blk_drewN ?_ _ | refine blk_drew ?_ | refine blk_alloc ?_ _)); exact BK440.out⟩, ⟨by repeat (first | (with_reducible first | exact HB.out | apply below_alloc | apply pw_below_drewN | apply below_drew1 | refine below_set ?_ GE440.out) | exact HB.out)⟩⟩
  case rest =>
    clear HC2
    try clear c2
    try clear p2
    try clear c5
    try clear hcz12_0
    try clear hcz7_0
    try clear hcz9_0
    try clear hfz12_0
    try clear hfz7_0
    try clear hfz9_0
    obtain ⟨kq, x12_1, rfl, HA, HJ1, BK440, HB⟩ := hcut
    cases kq with
    | zero => exact absurd HA.out (by simp [spec_SharedPrefix.j0])
    | succ kj1 =>
      have H := HA.out
      clear HA
      simp only [spec_SharedPrefix.j0] at H
      by_cases c14 : x12_1 = true
      · subst c14
        have H1 : (some ((⟨#[]⟩ : ByteArray), false)) = some (r1, r2) := by rw [if_pos rfl] at H; exact H
        clear H
        have H := H1
        clear H1
        simp only [Option.some.injEq, Prod.mk.injEq] at H
        obtain ⟨rfl, rfl⟩ := H
        go_wp2
        go_ret2
        exact ⟨by first | rfl | (simp [errW_none, errW_some] <;> rfl) | (simp [*, errW_none, errW_some] <;> rfl), by repeat (first | (with_reducible first | exact HB.out | apply below_alloc | apply pw_below_drewN | apply below_drew1 | refine below_set ?_ GE440.out) | exact HB.out)⟩
      · replace c14 := Bool.eq_false_iff.mpr c14
        subst c14
        have H1 : ((spec_l2Words.f kj1 l0_0).bind fun t445 => ((spec_l3Shared.f kj1 t445).bind fun t448 => (some (t448, true)))) = some (r1, r2) := by rw [if_neg (show ¬ (false = true) by decide)] at H; exact H
        clear H
        have H := H1
        clear H1
        replace H := Option.bind_eq_some_iff.mp H
        obtain ⟨t445, A150, H⟩ := H
        replace H : ((spec_l3Shared.f kj1 t445).bind fun t448 => (some (t448, true))) = some (r1, r2) := H
        have A15 := Aside0.mk A150
        clear A150
        replace H := Option.bind_eq_some_iff.mp H
        obtain ⟨t448, A160, H⟩ := H
        replace H : (some (t448, true)) = some (r1, r2) := H
        have A16 := Aside0.mk A160
        clear A160
        simp only [Option.some.injEq, Prod.mk.injEq] at H
        obtain ⟨rfl, rfl⟩ := H
        have hcz17_0 : wc.cell? ⟨gb440, 0, none⟩ = some (.slice A0_0 l0_0.length c0_0) := (blk_cell BK440.out 0).trans rfl
        have hfz17_0 := blk_frozen BK440.out 0
        go_wp2_with (first | ((with_reducible refine gate_callee (f := 53) rfl ?_); refine goesL_ (some 14) rfl rfl Try.func53 (by kernel_rfl) rfl #[.agg #[.slice A0_0 l0_0.length c0_0]] rfl (by (try simp only [List.map_toArray, List.map_cons, List.map_nil]); first | done | rfl | (simp only [List.length_drop, List.length_take]; rfl)) ?_; (with_reducible refine (spec_l2Words.calls kj1 _ _ l0_0 t445 _ ?side1 ?side2 A15.out).mono ?_); (case side1 => repeat (first | exact (Kd.C_below HR0_0.out HB.out) | (with_reducible refine Kd.C_alloc ?_ _) | (with_reducible refine Kd.C_drewN ?_ _) | (with_reducible refine Kd.C_drew ?_))); (case side2 => exact HC0_0.out); rintro e w18 ⟨v446, rfl, ho0, hb⟩; refine ⟨_, rfl, ?_⟩; have n0_ := Aside0.mk (Kd.R_lower ho0 (below_size (by repeat (first | (with_reducible first | exact HB.out | apply below_alloc | apply pw_below_drewN | apply below_drew1 | refine below_set ?_ GE440.out) | exact HB.out)))); have n1_ := Aside0.mk (blk_below (g := gb440) (o := .cells #[.slice A0_0 l0_0.length c0_0] 30 (0, 0)) (by (with_reducible repeat (first | refine blk_drewN ?_ _ | refine blk_drew ?_ | refine blk_alloc ?_ _)); exact BK440.out) hb); have n2_ := Aside0.mk (below_step (by repeat (first | (with_reducible first | exact HB.out | apply below_alloc | apply pw_below_drewN | apply below_drew1 | refine below_set ?_ GE440.out) | exact HB.out)) hb); clear BK440; clear HB; have HO447 := n0_; have BK440 := n1_; have HB := n2_; clear n0_ n1_ n2_; (try clear hb); (try clear hb2); (try clear hk); (try clear hi); (try clear ho0); obtain ⟨Ao19, co19, eo19⟩ := Kd.R_slice HO447.out; subst eo19) | ((with_reducible refine gate_callee (f := 64) rfl ?_); refine goesL_ (some 15) rfl rfl Try.func64 (by kernel_rfl) rfl #[.slice Ao19 t445.length co19] rfl (by (try simp only [List.map_toArray, List.map_cons, List.map_nil]); first | done | rfl | (simp only [List.length_drop, List.length_take]; rfl)) ?_; (with_reducible refine (spec_l3Shared.calls kj1 _ _ t445 t448 _ ?side1 ?side2 A16.out).mono ?_); (case side1 => repeat (first | exact (Kd.R_reads' HO447.out).2.2 | (with_reducible refine Kd.C_alloc ?_ _) | (with_reducible refine Kd.C_drewN ?_ _) | (with_reducible refine Kd.C_drew ?_))); (case side2 => exact (Kd.R_reads' HO447.out).2.1); rintro e w20 ⟨rfl, hb⟩; refine ⟨_, rfl, ?_⟩; have n0_ := Aside0.mk (Kd.R_below (by (with_reducible repeat (first | apply Kd.R_alloc | apply Kd.R_drewN | apply Kd.R_drew)); exact HO447.out) hb); have n1_ := Aside0.mk (blk_below (g := gb440) (o := .cells #[.slice A0_0 l0_0.length c0_0] 30 (0, 0)) (by (with_reducible repeat (first | refine blk_drewN ?_ _ | refine blk_drew ?_ | refine blk_alloc ?_ _)); exact BK440.out) hb); have n2_ := Aside0.mk (below_step (by repeat (first | (with_reducible first | exact HB.out | apply below_alloc | apply pw_below_drewN | apply below_drew1 | refine below_set ?_ GE440.out) | exact HB.out)) hb); clear HO447; clear BK440; clear HB; have HO447 := n0_; have BK440 := n1_; have HB := n2_; clear n0_ n1_ n2_; (try clear hb); (try clear hb2); (try clear hk); (try clear hi)))
        go_ret2
        exact ⟨by first | rfl | (simp [errW_none, errW_some] <;> rfl) | (simp [*, errW_none, errW_some] <;> rfl), by repeat (first | (with_reducible first | exact HB.out | apply below_alloc | apply pw_below_drewN | apply below_drew1 | refine below_set ?_ GE440.out) | exact HB.out)⟩
end Go.Proofs.Ytbedgcngoddkdaa.Q
namespace Go.Proofs.Ytbedgcngoddkdaa.Q
open Go.RowKit Go.Proofs.YtbedgcngoddkdaaW.PrintWords Go.Proofs.YtbedgcngoddkdaaW.PrintLast Go.Proofs.YtbedgcngoddkdaaW.PrintMore
set_option linter.unusedVariables false
def lcpN : List UInt8 → List UInt8 → Nat
  | x :: a, y :: b => if x = y then lcpN a b + 1 else 0
  | _, _ => 0
theorem lcp_at : ∀ (a b : List UInt8) (n : Nat), n ≤ a.length → n ≤ b.length → a.take n = b.take n → (n = a.length ∨ n = b.length ∨ a[n]? ≠ b[n]?) → lcpN a b = n
  | [], b, n, h1, _, _, _ => by simp at h1; simp [lcpN, h1]
  | _ :: _, [], n, _, h2, _, _ => by simp at h2; simp [lcpN, h2]
  | x :: a, y :: b, 0, _, _, _, h => by
    simp at h
    simp [lcpN, h]
  | x :: a, y :: b, n + 1, h1, h2, h3, h4 => by
    simp only [List.take_succ_cons, List.cons.injEq] at h3
    simp only [List.length_cons] at h1 h2 h4
    simp only [lcpN, if_pos h3.1]
    rw [lcp_at a b n (by omega) (by omega) h3.2 (by simpa using h4)]
def impl_shared.f (l0 : List ByteArray) : Option ByteArray := if 0 < l0.length ∧ l0.length ≤ 4294967296 ∧ (rdOf ByteArray.empty l0 0).size ≤ 4294967296 ∧ (rdOf ByteArray.empty l0 ((l0.length : Int) - 1)).size ≤ 4294967296 then some ((rdOf ByteArray.empty l0 0).extract 0 (lcpN (lw (rdOf ByteArray.empty l0 0)) (lw (rdOf ByteArray.empty l0 ((l0.length : Int) - 1))))) else none
theorem lw_len (b : ByteArray) : (lw b).length = b.size := by unfold lw; rw [Array.length_toList]; rfl
attribute [local go_sem] max2_int max_two
set_option maxHeartbeats 2000000 in
theorem impl_shared.calls (A0 : Option Addr) (c0 : Nat) (l0 : List ByteArray) (r : ByteArray) (w : World) (hr0 : Kd.C Kd.string w A0 l0.length l0) (hc0 : l0.length ≤ c0) (h : impl_shared.f l0 = some r) :
    Calls Try.prog 65 #[.slice A0 l0.length c0] w fun e w' => e = .returned (.string r) ∧ Drawn0 w w' := by
  unfold impl_shared.f at h
  split at h
  case isFalse => cases h
  rename_i hk
  obtain ⟨h0, h1, h2, h3⟩ := hk
  obtain rfl := Option.some.inj h
  clear h
  obtain ⟨ad, e0, hx0⟩ := Kd.at_string hr0 0 (by omega) (by omega)
  cases e0
  obtain ⟨ad', e1, hx1⟩ := Kd.at_string hr0 ((l0.length : Int) - 1) (by omega) (by omega)
  cases e1
  obtain ⟨a, ha⟩ : ∃ a, a = rdOf ByteArray.empty l0 0 := ⟨_, rfl⟩
  obtain ⟨b, hb⟩ : ∃ b, b = rdOf ByteArray.empty l0 ((l0.length : Int) - 1) := ⟨_, rfl⟩
  rw [← ha] at hx0 h2 ⊢
  rw [← hb] at hx1 h3 ⊢
  clear ha hb hr0
  simp only [Int.toNat_zero, Addr.add_zero'] at hx0
  rw [show ((l0.length : Int) - 1).toNat = l0.length - 1 by omega] at hx1
  have hw1 : IntKind.i64.wrap ((l0.length : Int) - 1) = (l0.length : Int) - 1 := by rw [i64_w]; unfold wrap64; omega
  have hp0 : (0 : Int) ≤ (l0.length : Int) - 1 := by omega
  have hp1 : (l0.length : Int) - 1 < (l0.length : Int) := by omega
  have hp2 : (1 : Int) ≤ (l0.length : Int) := by omega
  have hp3 : 1 ≤ l0.length := by omega
  go_enter Try.func65, Try.ntmps65
  go_wp2
  go_region
  go_wp2
  clear hx0 hx1 hw1 hp0 hp1 hp2 hp3
  go_loopw [5] (fun i wr => ∃ n q : Nat, n ≤ a.size ∧ n ≤ b.size ∧ i = .int .i64 n ∧ Aside0 ((lw a).take n = (lw b).take n) ∧ wr = w.drewN q) (fun i _ => a.size - (intOf i).toNat)
  case atStart => exact ⟨0, 1, Nat.zero_le _, Nat.zero_le _, rfl, ⟨by simp⟩, rfl⟩
  case round =>
    obtain ⟨n, q, hna, hnb, rfl, HT, rfl⟩ := hrel
    have hla := lw_len a
    have hlb := lw_len b
    have hd0 : ∀ {p : Prop} [Decidable p], p → decide p = true := fun h => decide_eq_true h
    by_cases hm : n < a.size ∧ n < b.size
    · obtain ⟨hm1, hm2⟩ := hm
      have g1 : decide ((n : Int) < (a.size : Int)) = true := decide_eq_true (by omega)
      have g2 : decide ((n : Int) < (b.size : Int)) = true := decide_eq_true (by omega)
      have g7 : decide ((n : Int) < min (a.size : Int) (b.size : Int)) = true := decide_eq_true (by omega)
      have g8 : decide ((n : Int) < mn (a.size : Int) (b.size : Int)) = true := decide_eq_true (by unfold mn; split <;> omega)
      have g9 : (n : Int) < min (a.size : Int) (b.size : Int) := by omega
      by_cases he : a[n] = b[n]
      · have he1 : ((a[n].toNat : Int) == (b[n].toNat : Int)) = true := by rw [he]; simp
        have hq : Aside0 ((lw a).take (n + 1) = (lw b).take (n + 1)) := ⟨by
          rw [List.take_succ_eq_append_getElem (by omega), List.take_succ_eq_append_getElem (by omega), HT.out]
          congr 2⟩
        clear he
        by_cases hba : b.size < a.size
        · go_wp2
          go_region
          go_wp2
          go_roundw
          case rel => exact ⟨n + 1, _, by omega, by omega, by go_num, hq, by first | rfl | exact World.drewN_drewN _ _ _⟩
          case measure => simp [intOf]; omega
        · go_wp2
          go_region
          go_wp2
          go_roundw
          case rel => exact ⟨n + 1, _, by omega, by omega, by go_num, hq, by first | rfl | exact World.drewN_drewN _ _ _⟩
          case measure => simp [intOf]; omega
      · have he1 : ((a[n].toNat : Int) == (b[n].toNat : Int)) = false := beq_eq_false_iff_ne.2 (fun e => he (UInt8.toNat_inj.1 (by omega)))
        have hq : Aside0 (lcpN (lw a) (lw b) = n) := ⟨lcp_at _ _ _ (by omega) (by omega) HT.out (.inr (.inr (by
          rw [List.getElem?_eq_getElem (by omega), List.getElem?_eq_getElem (by omega)]
          exact fun e => he (Option.some.inj e))))⟩
        clear he
        by_cases hba : b.size < a.size
        · go_wp2
          go_region
          go_wp2
          go_ret
          exact ⟨by rw [hq.out]; rfl, ⟨_, by first | rfl | exact World.drewN_drewN _ _ _⟩⟩
        · go_wp2
          go_region
          go_wp2
          go_ret
          exact ⟨by rw [hq.out]; rfl, ⟨_, by first | rfl | exact World.drewN_drewN _ _ _⟩⟩
    · have hq : Aside0 (lcpN (lw a) (lw b) = n) := ⟨lcp_at _ _ _ (by omega) (by omega) HT.out (by
        by_cases e : n = a.size
        · exact .inl (by omega)
        · exact .inr (.inl (by omega)))⟩
      by_cases hba : b.size < a.size
      · have g2 : decide ((n : Int) < (b.size : Int)) = false := decide_eq_false (by omega)
        have g4 : ¬ (n : Int) < (b.size : Int) := by omega
        have g5 : ¬ n < b.size := by omega
        have g7 : decide ((n : Int) < min (a.size : Int) (b.size : Int)) = false := decide_eq_false (by omega)
        have g8 : decide ((n : Int) < mn (a.size : Int) (b.size : Int)) = false := decide_eq_false (by unfold mn; split <;> omega)
        have g9 : ¬ (n : Int) < min (a.size : Int) (b.size : Int) := by omega
        go_wp2
        go_region
        go_wp2
        go_ret
        exact ⟨by rw [hq.out]; rfl, ⟨_, by first | rfl | exact World.drewN_drewN _ _ _⟩⟩
      · have g2 : decide ((n : Int) < (a.size : Int)) = false := decide_eq_false (by omega)
        have g4 : ¬ (n : Int) < (a.size : Int) := by omega
        have g5 : ¬ n < a.size := by omega
        have g7 : decide ((n : Int) < min (a.size : Int) (b.size : Int)) = false := decide_eq_false (by omega)
        have g8 : decide ((n : Int) < mn (a.size : Int) (b.size : Int)) = false := decide_eq_false (by unfold mn; split <;> omega)
        have g9 : ¬ (n : Int) < min (a.size : Int) (b.size : Int) := by omega
        go_wp2
        go_region
        go_wp2
        go_ret
        exact ⟨by rw [hq.out]; rfl, ⟨_, by first | rfl | exact World.drewN_drewN _ _ _⟩⟩
end Go.Proofs.Ytbedgcngoddkdaa.Q
namespace Go.Proofs.Ytbedgcngoddkdaa.Q
open Go.RowKit Go.Proofs.YtbedgcngoddkdaaW.PrintWords Go.Proofs.YtbedgcngoddkdaaW.PrintLast Go.Proofs.YtbedgcngoddkdaaW.PrintMore
attribute [local go_sem] run_field_23 run_field_24 run_field_29 run_field_30 run_field_51 run_field_52 isSome_setCell max2_int min2_int max_two min_two max_three min_three max_four min_four   -- for this text's walks alone
set_option linter.unusedVariables false
set_option linter.unusedSimpArgs false
def impl_SharedPrefix.j0 : Nat → Bool → List (S86) → Option (ByteArray × Bool)
  | 0, _, _ => none
  | k + 1, x12, x450000 => if x12 = true then (some ((⟨#[]⟩ : ByteArray), false)) else ((impl_Trie_words.f k x450000).bind fun t454 => ((impl_shared.f t454).bind fun t457 => (some (t457, true))))
def impl_SharedPrefix.f (k : Nat) (l0_0 : List (S86)) : Option (ByteArray × Bool) := (impl_isTrie.f k l0_0).bind fun t450 => (if t450 = true then ((impl_Trie_words.f k l0_0).bind fun t451 => (impl_SharedPrefix.j0 k ((t451.length : Int) == 0) l0_0)) else (impl_SharedPrefix.j0 k true l0_0))
set_option maxHeartbeats 8000000 in
set_option maxRecDepth 100000 in
theorem impl_SharedPrefix.calls (k : Nat) (A0_0 : Option Addr) (c0_0 : Nat) (l0_0 : List (S86)) (r1 : ByteArray) (r2 : Bool) (w : World) (hr0_0 : Kd.C k86 w A0_0 l0_0.length l0_0) (hc0_0 : l0_0.length ≤ c0_0) (h : impl_SharedPrefix.f k l0_0 = some (r1, r2)) :
    Calls Try.prog 23 #[.agg #[.slice A0_0 l0_0.length c0_0]] w fun e w' => e = .returned (.tuple #[.string r1, .bool r2]) ∧ Below w.heap.size w w' := by
  have hu30 := Try.underlying30
  have HR0_0 := Aside0.mk hr0_0
  have HC0_0 := Aside0.mk hc0_0
  clear hr0_0 hc0_0
  have HB := Aside0.mk (Below.refl w.heap.size w)
  have H : ((impl_isTrie.f k l0_0).bind fun t450 => (if t450 = true then ((impl_Trie_words.f k l0_0).bind fun t451 => (impl_SharedPrefix.j0 k ((t451.length : Int) == 0) l0_0)) else (impl_SharedPrefix.j0 k true l0_0))) = some (r1, r2) := h
  clear h
  have HC2 := Aside0.mk H
  clear H
  go_enter Try.func23, Try.ntmps23
  go_upto_region 1 with (first | ((with_reducible refine gate_dst (N := 1) rfl ?_); (try (refine gate_guard (by rfl) ?_; dsimp only)); refine box_event ?hg (N := 1) ?hd (cs := #[.slice A0_0 l0_0.length c0_0]) (t := 30) ?hr ?_; (case hd => rfl); (case hg => rfl); (case hr => first | (go_simp; done) | (go_simp; rfl)); intro gb449 hg w3 hbox hb; have n0_ := Aside0.mk (below_step (by repeat (first | (with_reducible first | exact HB.out | apply below_alloc | apply pw_below_drewN | apply below_drew1) | exact HB.out)) hb); have n1_ := Aside0.mk (hbox); have n2_ := Aside0.mk ((by rw [hg]; exact (below_size (by repeat (first | (with_reducible first | exact HB.out | apply below_alloc | apply pw_below_drewN | apply below_drew1) | exact HB.out))) : w.heap.size ≤ gb449)); have n3_ := Aside0.mk ((by rw [hg]; exact (below_size (by repeat (first | (with_reducible first | exact HB.out | apply below_alloc | apply pw_below_drewN | apply below_drew1) | exact HB.out))) : w.heap.size ≤ gb449)); clear HB; have HB := n0_; have BK449 := n1_; have GW449 := n2_; have GE449 := n3_; clear n0_ n1_ n2_ n3_; clear hb hbox hg))
  (try simp only [Act.put, List.setIfInBounds_toArray, List.set_cons_zero, List.set_cons_succ])
  go_cut [12] (fun v12 wc => ∃ (kq : Nat) (x12_1 : Bool), v12 = .bool x12_1 ∧ Aside0 (impl_SharedPrefix.j0 kq x12_1 l0_0 = some (r1, r2)) ∧ Aside0 (kq ≤ k) ∧ Aside0 (wc.heap[gb449]? = some (.cells #[(.slice A0_0 l0_0.length c0_0)] 30 (0, 0))) ∧ Aside0 (Below w.heap.size w wc))
  case first =>
    have H := HC2.out
    clear HC2
    replace H := Option.bind_eq_some_iff.mp H
    obtain ⟨t450, A40, H⟩ := H
    replace H : (if t450 = true then ((impl_Trie_words.f k l0_0).bind fun t451 => (impl_SharedPrefix.j0 k ((t451.length : Int) == 0) l0_0)) else (impl_SharedPrefix.j0 k true l0_0)) = some (r1, r2) := H
    have A4 := Aside0.mk A40
    clear A40
    by_cases c5 : t450 = true
    · subst c5
      have H1 : ((impl_Trie_words.f k l0_0).bind fun t451 => (impl_SharedPrefix.j0 k ((t451.length : Int) == 0) l0_0)) = some (r1, r2) := by rw [if_pos rfl] at H; exact H
      clear H
      have H := H1
      clear H1
      replace H := Option.bind_eq_some_iff.mp H
      obtain ⟨t451, A60, H⟩ := H
      replace H : (impl_SharedPrefix.j0 k ((t451.length : Int) == 0) l0_0) = some (r1, r2) := H
      have A6 := Aside0.mk A60
      clear A60
      have H' := Aside0.mk H
      clear H
      have hcz7_0 : w3.cell? ⟨gb449, 0, none⟩ = some (.slice A0_0 l0_0.length c0_0) := (blk_cell BK449.out 0).trans rfl
      have hfz7_0 := blk_frozen BK449.out 0
      go_wp2_with (first | ((with_reducible refine gate_callee (f := 55) rfl ?_); refine goesL_ (some 5) rfl rfl Try.func55 (by kernel_rfl) rfl #[.agg #[.slice A0_0 l0_0.length c0_0]] rfl (by (try simp only [List.map_toArray, List.map_cons, List.map_nil]); first | done | rfl | (simp only [List.length_drop, List.length_take]; rfl)) ?_; (with_reducible refine (impl_isTrie.calls k _ _ l0_0 true _ ?side1 ?side2 A4.out).mono ?_); (case side1 => repeat (first | exact (Kd.C_below HR0_0.out HB.out) | (with_reducible refine Kd.C_alloc ?_ _) | (with_reducible refine Kd.C_drewN ?_ _) | (with_reducible refine Kd.C_drew ?_))); (case side2 => exact HC0_0.out); rintro e w8 ⟨rfl, hb⟩; refine ⟨_, rfl, ?_⟩; have n0_ := Aside0.mk (blk_below (g := gb449) (o := .cells #[.slice A0_0 l0_0.length c0_0] 30 (0, 0)) (by (with_reducible repeat (first | refine blk_drewN ?_ _ | refine blk_drew ?_ | refine blk_alloc ?_ _)); exact BK449.out) hb); have n1_ := Aside0.mk (below_step (by repeat (first | (with_reducible first | exact HB.out | apply below_alloc | apply pw_below_drewN | apply below_drew1 | refine below_set ?_ GE449.out) | exact HB.out)) hb); clear BK449; clear HB; have BK449 := n0_; have HB := n1_; clear n0_ n1_; (try clear hb); (try clear hb2); (try clear hk); (try clear hi); have hcz9_0 : w8.cell? ⟨gb449, 0, none⟩ = some (.slice A0_0 l0_0.length c0_0) := (blk_cell BK449.out 0).trans rfl; have hfz9_0 := blk_frozen BK449.out 0) | (go_at_call 57; (with_reducible refine (impl_Trie_words.calls k _ _ l0_0 t451 _ ?side1 ?side2 A6.out).mono ?_); (case side1 => repeat (first | exact (Kd.C_below HR0_0.out HB.out) | (with_reducible refine Kd.C_alloc ?_ _) | (with_reducible refine Kd.C_drewN ?_ _) | (with_reducible refine Kd.C_drew ?_))); (case side2 => exact HC0_0.out); rintro e w10 ⟨v452, rfl, ho0, hb⟩; have n0_ := Aside0.mk (Kd.R_lower ho0 (below_size (by repeat (first | (with_reducible first | exact HB.out | apply below_alloc | apply pw_below_drewN | apply below_drew1 | refine below_set ?_ GE449.out) | exact HB.out)))); have n1_ := Aside0.mk (blk_below (g := gb449) (o := .cells #[.slice A0_0 l0_0.length c0_0] 30 (0, 0)) (by (with_reducible repeat (first | refine blk_drewN ?_ _ | refine blk_drew ?_ | refine blk_alloc ?_ _)); exact BK449.out) hb); have n2_ := Aside0.mk (below_step (by repeat (first | (with_reducible first | exact HB.out | apply below_alloc | apply pw_below_drewN | apply below_drew1 | refine below_set ?_ GE449.out) | exact HB.out)) hb); clear BK449; clear HB; have HO453 := n0_; have BK449 := n1_; have HB := n2_; clear n0_ n1_ n2_; (try clear hb); (try clear hb2); (try clear hk); (try clear hi); (try clear ho0); obtain ⟨Ao11, co11, eo11⟩ := Kd.R_slice HO453.out; subst eo11))
      go_meet
      case rel => exact ⟨_, (((t451.length : Int) == 0)), (by first | rfl | (simp; done) | (simp [*]; done)), H', ⟨by first | omega | exact Nat.le_refl _⟩, ⟨by (with_reducible repeat (first | refine blk_drewN ?_ _ | refine blk_drew ?_ | refine blk_alloc ?_ _)); exact BK449.out⟩, ⟨by repeat (first | (with_reducible first | exact HB.out | apply below_alloc | apply pw_below_drewN | apply below_drew1 | refine below_set ?_ GE449.out) | exact HB.out)⟩⟩
    · replace c5 := Bool.eq_false_iff.mpr c5
      subst c5
      have H1 : (impl_SharedPrefix.j0 k true l0_0) = some (r1, r2) := by rw [if_neg (show ¬ (false = true) by decide)] at H; exact H
      clear H
      have H := H1
      clear H1
      have H' := Aside0.mk H
      clear H
      have hcz12_0 : w3.cell? ⟨gb449, 0, none⟩ = some (.slice A0_0 l0_0.length c0_0) := (blk_cell BK449.out 0).trans rfl
      have hfz12_0 := blk_frozen BK449.out 0
      go_wp2_with (first | ((with_reducible refine gate_callee (f := 55) rfl ?_); refine goesL_ (some 5) rfl rfl Try.func55 (by kernel_rfl) rfl #[.agg #[.slice A0_0 l0_0.length c0_0]] rfl (by (try simp only [List.map_toArray, List.map_cons, List.map_nil]); first | done | rfl | (simp only [List.length_drop, List.length_take]; rfl)) ?_; (with_reducible refine (impl_isTrie.calls k _ _ l0_0 false _ ?side1 ?side2 A4.out).mono ?_); (case side1 => repeat (first | exact (Kd.C_below HR0_0.out HB.out) | (with_reducible refine Kd.C_alloc ?_ _) | (with_reducible refine Kd.C_drewN ?_ _) | (with_reducible refine Kd.C_drew ?_))); (case side2 => exact HC0_0.out); rintro e w13 ⟨rfl, hb⟩; refine ⟨_, rfl, ?_⟩; have n0_ := Aside0.mk (blk_below (g := gb449) (o := .cells #[.slice A0_0 l0_0.length c0_0] 30 (0, 0)) (by (with_reducible repeat (first | refine blk_drewN ?_ _ | refine blk_drew ?_ | refine blk_alloc ?_ _)); exact BK449.out) hb); have n1_ := Aside0.mk (below_step (by repeat (first | (with_reducible first | exact HB.out | apply below_alloc | apply pw_below_drewN | apply below_drew1 | refine below_set ?_ GE449.out) | exact HB.out)) hb); clear BK449; clear HB; have BK449 := n0_; have HB := n1_; clear n0_ n1_; (try clear hb); (try clear hb2); (try clear hk); (try clear hi)))
      go_meet
      case rel => exact ⟨_, (true), (by first | rfl | (simp; done) | (simp [*]; done)), H', ⟨by first | omega | exact Nat.le_refl _⟩, ⟨by (with_reducible repeat (first | refine blk_drewN ?_ _ | refine blk_drew ?_ | refine blk_alloc ?_ _)); exact BK449.out⟩, ⟨by repeat (first | (with_reducible first | exact HB.out | apply below_alloc | apply pw_below_drewN | apply below_drew1 | refine below_set ?_ GE449.out) | exact HB.out)⟩⟩
  case rest =>
    clear HC2
    try clear c2
    try clear p2
    try clear c5
    try clear hcz12_0
    try clear hcz7_0
    try clear hcz9_0
    try clear hfz12_0
    try clear hfz7_0
    try clear hfz9_0
    obtain ⟨kq, x12_1, rfl, HA, HJ1, BK449, HB⟩ := hcut
    cases kq with
    | zero => exact absurd HA.out (by simp [impl_SharedPrefix.j0])
    | succ kj1 =>
      have H := HA.out
      clear HA
      simp only [impl_SharedPrefix.j0] at H
      by_cases c14 : x12_1 = true
      · subst c14
        have H1 : (some ((⟨#[]⟩ : ByteArray), false)) = some (r1, r2) := by rw [if_pos rfl] at H; exact H
        clear H
        have H := H1
        clear H1
        simp only [Option.some.injEq, Prod.mk.injEq] at H
        obtain ⟨rfl, rfl⟩ := H
        go_wp2
        go_ret2
        exact ⟨by first | rfl | (simp [errW_none, errW_some] <;> rfl) | (simp [*, errW_none, errW_some] <;> rfl), by repeat (first | (with_reducible first | exact HB.out | apply below_alloc | apply pw_below_drewN | apply below_drew1 | refine below_set ?_ GE449.out) | exact HB.out)⟩
      · replace c14 := Bool.eq_false_iff.mpr c14
        subst c14
        have H1 : ((impl_Trie_words.f kj1 l0_0).bind fun t454 => ((impl_shared.f t454).bind fun t457 => (some (t457, true)))) = some (r1, r2) := by rw [if_neg (show ¬ (false = true) by decide)] at H; exact H
        clear H
        have H := H1
        clear H1
        replace H := Option.bind_eq_some_iff.mp H
        obtain ⟨t454, A150, H⟩ := H
        replace H : ((impl_shared.f t454).bind fun t457 => (some (t457, true))) = some (r1, r2) := H
        have A15 := Aside0.mk A150
        clear A150
        replace H := Option.bind_eq_some_iff.mp H
        obtain ⟨t457, A160, H⟩ := H
        replace H : (some (t457, true)) = some (r1, r2) := H
        have A16 := Aside0.mk A160
        clear A160
        simp only [Option.some.injEq, Prod.mk.injEq] at H
        obtain ⟨rfl, rfl⟩ := H
        have hcz17_0 : wc.cell? ⟨gb449, 0, none⟩ = some (.slice A0_0 l0_0.length c0_0) := (blk_cell BK449.out 0).trans rfl
        have hfz17_0 := blk_frozen BK449.out 0
        go_wp2_with (first | ((with_reducible refine gate_callee (f := 57) rfl ?_); refine goesL_ (some 14) rfl rfl Try.func57 (by kernel_rfl) rfl #[.agg #[.slice A0_0 l0_0.length c0_0]] rfl (by (try simp only [List.map_toArray, List.map_cons, List.map_nil]); first | done | rfl | (simp only [List.length_drop, List.length_take]; rfl)) ?_; (with_reducible refine (impl_Trie_words.calls kj1 _ _ l0_0 t454 _ ?side1 ?side2 A15.out).mono ?_); (case side1 => repeat (first | exact (Kd.C_below HR0_0.out HB.out) | (with_reducible refine Kd.C_alloc ?_ _) | (with_reducible refine Kd.C_drewN ?_ _) | (with_reducible refine Kd.C_drew ?_))); (case side2 => exact HC0_0.out); rintro e w18 ⟨v455, rfl, ho0, hb⟩; refine ⟨_, rfl, ?_⟩; have n0_ := Aside0.mk (Kd.R_lower ho0 (below_size (by repeat (first | (with_reducible first | exact HB.out | apply below_alloc | apply pw_below_drewN | apply below_drew1 | refine below_set ?_ GE449.out) | exact HB.out)))); have n1_ := Aside0.mk (blk_below (g := gb449) (o := .cells #[.slice A0_0 l0_0.length c0_0] 30 (0, 0)) (by (with_reducible repeat (first | refine blk_drewN ?_ _ | refine blk_drew ?_ | refine blk_alloc ?_ _)); exact BK449.out) hb); have n2_ := Aside0.mk (below_step (by repeat (first | (with_reducible first | exact HB.out | apply below_alloc | apply pw_below_drewN | apply below_drew1 | refine below_set ?_ GE449.out) | exact HB.out)) hb); clear BK449; clear HB; have HO456 := n0_; have BK449 := n1_; have HB := n2_; clear n0_ n1_ n2_; (try clear hb); (try clear hb2); (try clear hk); (try clear hi); (try clear ho0); obtain ⟨Ao19, co19, eo19⟩ := Kd.R_slice HO456.out; subst eo19) | ((with_reducible refine gate_callee (f := 65) rfl ?_); refine goesL_ (some 15) rfl rfl Try.func65 (by kernel_rfl) rfl #[.slice Ao19 t454.length co19] rfl (by (try simp only [List.map_toArray, List.map_cons, List.map_nil]); first | done | rfl | (simp only [List.length_drop, List.length_take]; rfl)) ?_; (with_reducible refine (impl_shared.calls _ _ t454 t457 _ ?side1 ?side2 A16.out).mono ?_); (case side1 => repeat (first | exact (Kd.R_reads' HO456.out).2.2 | (with_reducible refine Kd.C_alloc ?_ _) | (with_reducible refine Kd.C_drewN ?_ _) | (with_reducible refine Kd.C_drew ?_))); (case side2 => exact (Kd.R_reads' HO456.out).2.1); rintro e w' ⟨rfl, ⟨nd, rfl⟩⟩; refine ⟨_, rfl, ?_⟩))
        go_ret2
        exact ⟨by first | rfl | (simp [errW_none, errW_some] <;> rfl) | (simp [*, errW_none, errW_some] <;> rfl), by repeat (first | (with_reducible first | exact HB.out | apply below_alloc | apply pw_below_drewN | apply below_drew1 | refine below_set ?_ GE449.out) | exact HB.out)⟩
def laws_FnExactSharedPrefix.j0 : Nat → Bool → List (S89) → List (S86) → Option (Bool)
  | 0, _, _, _ => none
  | k + 1, x34, x459000, x469000 => if x34 = true then (some false) else ((laws_toTrie.f k x459000).bind fun t471 => ((laws_eqTrie.f k x469000 t471).bind fun t474 => (if t474 = true then (some true) else (some false))))
def laws_FnExactSharedPrefix.f (k : Nat) (l0_0 : List (S89)) : Option (Bool) := (laws_szTrie.f l0_0 1048576).bind fun t459 => (if t459 < 0 then (some true) else ((laws_toTrie.f k l0_0).bind fun t460 => ((spec_SharedPrefix.f k t460).bind fun bt463 => ((laws_toTrie.f k l0_0).bind fun t465 => ((impl_SharedPrefix.f k t465).bind fun bt469 => (if bt469.1.toList = bt463.1.toList then (laws_FnExactSharedPrefix.j0 k (bt469.2 != bt463.2) l0_0 t465) else (laws_FnExactSharedPrefix.j0 k true l0_0 t465)))))))
set_option maxHeartbeats 8000000 in
set_option maxRecDepth 100000 in
theorem laws_FnExactSharedPrefix.calls (k : Nat) (A0_0 : Option Addr) (c0_0 : Nat) (l0_0 : List (S89)) (r : Bool) (w : World) (hr0_0 : Kd.C k89 w A0_0 l0_0.length l0_0) (hc0_0 : l0_0.length ≤ c0_0) (h : laws_FnExactSharedPrefix.f k l0_0 = some true) :
    Calls Try.prog 5 #[.agg #[.slice A0_0 l0_0.length c0_0]] w fun e w' => e = .returned (.bool true) ∧ Below w.heap.size w w' := by
  have hu24 := Try.underlying24
  have hu30 := Try.underlying30
  have HR0_0 := Aside0.mk hr0_0
  have HC0_0 := Aside0.mk hc0_0
  clear hr0_0 hc0_0
  have HB := Aside0.mk (Below.refl w.heap.size w)
  have H : ((laws_szTrie.f l0_0 1048576).bind fun t459 => (if t459 < 0 then (some true) else ((laws_toTrie.f k l0_0).bind fun t460 => ((spec_SharedPrefix.f k t460).bind fun bt463 => ((laws_toTrie.f k l0_0).bind fun t465 => ((impl_SharedPrefix.f k t465).bind fun bt469 => (if bt469.1.toList = bt463.1.toList then (laws_FnExactSharedPrefix.j0 k (bt469.2 != bt463.2) l0_0 t465) else (laws_FnExactSharedPrefix.j0 k true l0_0 t465)))))))) = some true := h
  clear h
  replace H := Option.bind_eq_some_iff.mp H
  obtain ⟨t459, A20, H⟩ := H
  replace H : (if t459 < 0 then (some true) else ((laws_toTrie.f k l0_0).bind fun t460 => ((spec_SharedPrefix.f k t460).bind fun bt463 => ((laws_toTrie.f k l0_0).bind fun t465 => ((impl_SharedPrefix.f k t465).bind fun bt469 => (if bt469.1.toList = bt463.1.toList then (laws_FnExactSharedPrefix.j0 k (bt469.2 != bt463.2) l0_0 t465) else (laws_FnExactSharedPrefix.j0 k true l0_0 t465))))))) = some true := H
  have A2 := Aside0.mk A20
  clear A20
  by_cases c3 : t459 < 0
  · rw [if_pos c3] at H
    have c3b0 : decide (t459 < 0) = true := decide_eq_true c3
    clear c3
    (first | (obtain rfl := Option.some.inj H) | (have hH_ := Option.some.inj H; try simp only [hH_]))
    go_enter Try.func5, Try.ntmps5
    go_wp2_with (first | ((with_reducible refine gate_dst (N := 1) rfl ?_); refine box_event ?hg (N := 1) ?hd (cs := #[.slice A0_0 l0_0.length c0_0]) (t := 24) ?hr ?_; (case hd => rfl); (case hg => rfl); (case hr => first | (go_simp; done) | (go_simp; rfl)); intro gb458 hg w4 hbox hb; have n0_ := Aside0.mk (below_step (by repeat (first | (with_reducible first | exact HB.out | apply below_alloc | apply pw_below_drewN | apply below_drew1) | exact HB.out)) hb); have n1_ := Aside0.mk (hbox); have n2_ := Aside0.mk ((by rw [hg]; exact (below_size (by repeat (first | (with_reducible first | exact HB.out | apply below_alloc | apply pw_below_drewN | apply below_drew1) | exact HB.out))) : w.heap.size ≤ gb458)); have n3_ := Aside0.mk ((by rw [hg]; exact (below_size (by repeat (first | (with_reducible first | exact HB.out | apply below_alloc | apply pw_below_drewN | apply below_drew1) | exact HB.out))) : w.heap.size ≤ gb458)); clear HB; have HB := n0_; have BK458 := n1_; have GW458 := n2_; have GE458 := n3_; clear n0_ n1_ n2_ n3_; clear hb hbox hg; have hcz5_0 : w4.cell? ⟨gb458, 0, none⟩ = some (.slice A0_0 l0_0.length c0_0) := (blk_cell BK458.out 0).trans rfl; have hfz5_0 := blk_frozen BK458.out 0) | ((with_reducible refine gate_callee (f := 15) rfl ?_); refine goesL_ (some 11) rfl rfl Try.func15 (by kernel_rfl) rfl #[.agg #[.slice A0_0 l0_0.length c0_0], .int .i64 1048576] rfl (by (try simp only [List.map_toArray, List.map_cons, List.map_nil]); first | done | rfl | (simp only [List.length_drop, List.length_take]; rfl)) ?_; (with_reducible refine (laws_szTrie.calls _ _ l0_0 1048576 t459 _ ?side1 ?side2 A2.out).mono ?_); (case side1 => repeat (first | exact (Kd.C_below HR0_0.out HB.out) | (with_reducible refine Kd.C_alloc ?_ _) | (with_reducible refine Kd.C_drewN ?_ _) | (with_reducible refine Kd.C_drew ?_))); (case side2 => exact HC0_0.out); rintro e w6 ⟨rfl, hb⟩; refine ⟨_, rfl, ?_⟩; have n0_ := Aside0.mk (blk_below (g := gb458) (o := .cells #[.slice A0_0 l0_0.length c0_0] 24 (0, 0)) (by (with_reducible repeat (first | refine blk_drewN ?_ _ | refine blk_drew ?_ | refine blk_alloc ?_ _)); exact BK458.out) hb); have n1_ := Aside0.mk (below_step (by repeat (first | (with_reducible first | exact HB.out | apply below_alloc | apply pw_below_drewN | apply below_drew1 | refine below_set ?_ GE458.out) | exact HB.out)) hb); clear BK458; clear HB; have BK458 := n0_; have HB := n1_; clear n0_ n1_; (try clear hb); (try clear hb2); (try clear hk); (try clear hi)))
    go_ret
    exact ⟨by first | rfl | (simp [errW_none, errW_some] <;> rfl) | (simp [*, errW_none, errW_some] <;> rfl), by repeat (first | (with_reducible first | exact HB.out | apply below_alloc | apply pw_below_drewN | apply below_drew1 | refine below_set ?_ GE458.out) | exact HB.out)⟩
  · rw [if_neg c3] at H
    have c3b0 : decide (t459 < 0) = false := decide_eq_false c3
    clear c3
    replace H := Option.bind_eq_some_iff.mp H
    obtain ⟨t460, A70, H⟩ := H
    replace H : ((spec_SharedPrefix.f k t460).bind fun bt463 => ((laws_toTrie.f k l0_0).bind fun t465 => ((impl_SharedPrefix.f k t465).bind fun bt469 => (if bt469.1.toList = bt463.1.toList then (laws_FnExactSharedPrefix.j0 k (bt469.2 != bt463.2) l0_0 t465) else (laws_FnExactSharedPrefix.j0 k true l0_0 t465))))) = some true := H
    have A7 := Aside0.mk A70
    clear A70
    replace H := Option.bind_eq_some_iff.mp H
    obtain ⟨⟨t463, t464⟩, A80, H⟩ := H
    replace H : ((laws_toTrie.f k l0_0).bind fun t465 => ((impl_SharedPrefix.f k t465).bind fun bt469 => (if bt469.1.toList = t463.toList then (laws_FnExactSharedPrefix.j0 k (bt469.2 != t464) l0_0 t465) else (laws_FnExactSharedPrefix.j0 k true l0_0 t465)))) = some true := H
    have A8 := Aside0.mk A80
    clear A80
    replace H := Option.bind_eq_some_iff.mp H
    obtain ⟨t465, A90, H⟩ := H
    replace H : ((impl_SharedPrefix.f k t465).bind fun bt469 => (if bt469.1.toList = t463.toList then (laws_FnExactSharedPrefix.j0 k (bt469.2 != t464) l0_0 t465) else (laws_FnExactSharedPrefix.j0 k true l0_0 t465))) = some true := H
    have A9 := Aside0.mk A90
    clear A90
    replace H := Option.bind_eq_some_iff.mp H
    obtain ⟨⟨t469, t470⟩, A100, H⟩ := H
    replace H : (if t469.toList = t463.toList then (laws_FnExactSharedPrefix.j0 k (t470 != t464) l0_0 t465) else (laws_FnExactSharedPrefix.j0 k true l0_0 t465)) = some true := H
    have A10 := Aside0.mk A100
    clear A100
    have HC11 := Aside0.mk H
    clear H
    go_enter Try.func5, Try.ntmps5
    go_upto_region 8 with (first | ((with_reducible refine gate_dst (N := 1) rfl ?_); refine box_event ?hg (N := 1) ?hd (cs := #[.slice A0_0 l0_0.length c0_0]) (t := 24) ?hr ?_; (case hd => rfl); (case hg => rfl); (case hr => first | (go_simp; done) | (go_simp; rfl)); intro gb458 hg w12 hbox hb; have n0_ := Aside0.mk (below_step (by repeat (first | (with_reducible first | exact HB.out | apply below_alloc | apply pw_below_drewN | apply below_drew1) | exact HB.out)) hb); have n1_ := Aside0.mk (hbox); have n2_ := Aside0.mk ((by rw [hg]; exact (below_size (by repeat (first | (with_reducible first | exact HB.out | apply below_alloc | apply pw_below_drewN | apply below_drew1) | exact HB.out))) : w.heap.size ≤ gb458)); have n3_ := Aside0.mk ((by rw [hg]; exact (below_size (by repeat (first | (with_reducible first | exact HB.out | apply below_alloc | apply pw_below_drewN | apply below_drew1) | exact HB.out))) : w.heap.size ≤ gb458)); clear HB; have HB := n0_; have BK458 := n1_; have GW458 := n2_; have GE458 := n3_; clear n0_ n1_ n2_ n3_; clear hb hbox hg; have hcz13_0 : w12.cell? ⟨gb458, 0, none⟩ = some (.slice A0_0 l0_0.length c0_0) := (blk_cell BK458.out 0).trans rfl; have hfz13_0 := blk_frozen BK458.out 0) | ((with_reducible refine gate_callee (f := 15) rfl ?_); refine goesL_ (some 11) rfl rfl Try.func15 (by kernel_rfl) rfl #[.agg #[.slice A0_0 l0_0.length c0_0], .int .i64 1048576] rfl (by (try simp only [List.map_toArray, List.map_cons, List.map_nil]); first | done | rfl | (simp only [List.length_drop, List.length_take]; rfl)) ?_; (with_reducible refine (laws_szTrie.calls _ _ l0_0 1048576 t459 _ ?side1 ?side2 A2.out).mono ?_); (case side1 => repeat (first | exact (Kd.C_below HR0_0.out HB.out) | (with_reducible refine Kd.C_alloc ?_ _) | (with_reducible refine Kd.C_drewN ?_ _) | (with_reducible refine Kd.C_drew ?_))); (case side2 => exact HC0_0.out); rintro e w14 ⟨rfl, hb⟩; refine ⟨_, rfl, ?_⟩; have n0_ := Aside0.mk (blk_below (g := gb458) (o := .cells #[.slice A0_0 l0_0.length c0_0] 24 (0, 0)) (by (with_reducible repeat (first | refine blk_drewN ?_ _ | refine blk_drew ?_ | refine blk_alloc ?_ _)); exact BK458.out) hb); have n1_ := Aside0.mk (below_step (by repeat (first | (with_reducible first | exact HB.out | apply below_alloc | apply pw_below_drewN | apply below_drew1 | refine below_set ?_ GE458.out) | exact HB.out)) hb); clear BK458; clear HB; have BK458 := n0_; have HB := n1_; clear n0_ n1_; (try clear hb); (try clear hb2); (try clear hk); (try clear hi); have hcz15_0 : w14.cell? ⟨gb458, 0, none⟩ = some (.slice A0_0 l0_0.length c0_0) := (blk_cell BK458.out 0).trans rfl; have hfz15_0 := blk_frozen BK458.out 0) | ((with_reducible refine gate_callee (f := 17) rfl ?_); refine goesL_ (some 16) rfl rfl Try.func17 (by kernel_rfl) rfl #[.agg #[.slice A0_0 l0_0.length c0_0]] rfl (by (try simp only [List.map_toArray, List.map_cons, List.map_nil]); first | done | rfl | (simp only [List.length_drop, List.length_take]; rfl)) ?_; (with_reducible refine (laws_toTrie.calls k _ _ l0_0 t460 _ ?side1 ?side2 A7.out).mono ?_); (case side1 => repeat (first | exact (Kd.C_below HR0_0.out HB.out) | (with_reducible refine Kd.C_alloc ?_ _) | (with_reducible refine Kd.C_drewN ?_ _) | (with_reducible refine Kd.C_drew ?_))); (case side2 => exact HC0_0.out); rintro e w16 ⟨v461, rfl, ho0, hb⟩; refine ⟨_, rfl, ?_⟩; have n0_ := Aside0.mk (Kd.R_lower ho0 (below_size (by repeat (first | (with_reducible first | exact HB.out | apply below_alloc | apply pw_below_drewN | apply below_drew1 | refine below_set ?_ GE458.out) | exact HB.out)))); have n1_ := Aside0.mk (blk_below (g := gb458) (o := .cells #[.slice A0_0 l0_0.length c0_0] 24 (0, 0)) (by (with_reducible repeat (first | refine blk_drewN ?_ _ | refine blk_drew ?_ | refine blk_alloc ?_ _)); exact BK458.out) hb); have n2_ := Aside0.mk (below_step (by repeat (first | (with_reducible first | exact HB.out | apply below_alloc | apply pw_below_drewN | apply below_drew1 | refine below_set ?_ GE458.out) | exact HB.out)) hb); clear BK458; clear HB; have HO462 := n0_; have BK458 := n1_; have HB := n2_; clear n0_ n1_ n2_; (try clear hb); (try clear hb2); (try clear hk); (try clear hi); (try clear ho0); obtain ⟨Ao17, co17, eo17⟩ := Kd.R_slice HO462.out; subst eo17) | ((with_reducible refine gate_callee (f := 22) rfl ?_); refine goesL_ (some 17) rfl rfl Try.func22 (by kernel_rfl) rfl #[.agg #[.slice Ao17 t460.length co17]] rfl (by (try simp only [List.map_toArray, List.map_cons, List.map_nil]); first | done | rfl | (simp only [List.length_drop, List.length_take]; rfl)) ?_; (with_reducible refine (spec_SharedPrefix.calls k _ _ t460 t463 t464 _ ?side1 ?side2 A8.out).mono ?_); (case side1 => repeat (first | exact (Kd.R_reads' HO462.out).2.2 | (with_reducible refine Kd.C_alloc ?_ _) | (with_reducible refine Kd.C_drewN ?_ _) | (with_reducible refine Kd.C_drew ?_))); (case side2 => exact (Kd.R_reads' HO462.out).2.1); rintro e w18 ⟨rfl, hb⟩; refine ⟨_, rfl, ?_⟩; have n0_ := Aside0.mk (Kd.R_below (by (with_reducible repeat (first | apply Kd.R_alloc | apply Kd.R_drewN | apply Kd.R_drew)); exact HO462.out) hb); have n1_ := Aside0.mk (blk_below (g := gb458) (o := .cells #[.slice A0_0 l0_0.length c0_0] 24 (0, 0)) (by (with_reducible repeat (first | refine blk_drewN ?_ _ | refine blk_drew ?_ | refine blk_alloc ?_ _)); exact BK458.out) hb); have n2_ := Aside0.mk (below_step (by repeat (first | (with_reducible first | exact HB.out | apply below_alloc | apply pw_below_drewN | apply below_drew1 | refine below_set ?_ GE458.out) | exact HB.out)) hb); clear HO462; clear BK458; clear HB; have HO462 := n0_; have BK458 := n1_; have HB := n2_; clear n0_ n1_ n2_; (try clear hb); (try clear hb2); (try clear hk); (try clear hi); have hcz19_0 : w18.cell? ⟨gb458, 0, none⟩ = some (.slice A0_0 l0_0.length c0_0) := (blk_cell BK458.out 0).trans rfl; have hfz19_0 := blk_frozen BK458.out 0) | ((with_reducible refine gate_callee (f := 17) rfl ?_); refine goesL_ (some 21) rfl rfl Try.func17 (by kernel_rfl) rfl #[.agg #[.slice A0_0 l0_0.length c0_0]] rfl (by (try simp only [List.map_toArray, List.map_cons, List.map_nil]); first | done | rfl | (simp only [List.length_drop, List.length_take]; rfl)) ?_; (with_reducible refine (laws_toTrie.calls k _ _ l0_0 t465 _ ?side1 ?side2 A9.out).mono ?_); (case side1 => repeat (first | exact (Kd.C_below HR0_0.out HB.out) | (with_reducible refine Kd.C_alloc ?_ _) | (with_reducible refine Kd.C_drewN ?_ _) | (with_reducible refine Kd.C_drew ?_))); (case side2 => exact HC0_0.out); rintro e w20 ⟨v466, rfl, ho0, hb⟩; refine ⟨_, rfl, ?_⟩; have n0_ := Aside0.mk (Kd.R_elder' (by (with_reducible repeat (first | apply Kd.R_alloc | apply Kd.R_drewN | apply Kd.R_drew)); exact HO462.out) (Kd.R_base ho0) hb); have n1_ := Aside0.mk (Kd.R_lower (Kd.R_new' ho0 (Kd.R_lt (by (with_reducible repeat (first | apply Kd.R_alloc | apply Kd.R_drewN | apply Kd.R_drew)); exact HO462.out))) (below_size (by repeat (first | (with_reducible first | exact HB.out | apply below_alloc | apply pw_below_drewN | apply below_drew1 | refine below_set ?_ GE458.out) | exact HB.out)))); have n2_ := Aside0.mk (blk_below (g := gb458) (o := .cells #[.slice A0_0 l0_0.length c0_0] 24 (0, 0)) (by (with_reducible repeat (first | refine blk_drewN ?_ _ | refine blk_drew ?_ | refine blk_alloc ?_ _)); exact BK458.out) hb); have n3_ := Aside0.mk (below_step (by repeat (first | (with_reducible first | exact HB.out | apply below_alloc | apply pw_below_drewN | apply below_drew1 | refine below_set ?_ GE458.out) | exact HB.out)) hb); clear HO462; clear BK458; clear HB; have HO462 := n0_; have HO467 := n1_; have BK458 := n2_; have HB := n3_; clear n0_ n1_ n2_ n3_; (try clear hb); (try clear hb2); (try clear hk); (try clear hi); (try clear ho0)) | ((with_reducible refine gate_dst (N := 6) rfl ?_); refine box_event ?hg (N := 6) ?hd (cs := #[.slice none 0 0]) (t := 30) ?hr ?_; (case hd => rfl); (case hg => rfl); (case hr => first | (go_simp; done) | (go_simp; rfl)); intro gb468 hg w21 hbox hb; have n0_ := Aside0.mk (Kd.R_below (by (with_reducible repeat (first | apply Kd.R_alloc | apply Kd.R_drewN | apply Kd.R_drew)); exact HO462.out) hb); have n1_ := Aside0.mk (Kd.R_below (by (with_reducible repeat (first | apply Kd.R_alloc | apply Kd.R_drewN | apply Kd.R_drew)); exact HO467.out) hb); have n2_ := Aside0.mk (blk_below (g := gb458) (o := .cells #[.slice A0_0 l0_0.length c0_0] 24 (0, 0)) (by (with_reducible repeat (first | refine blk_drewN ?_ _ | refine blk_drew ?_ | refine blk_alloc ?_ _)); exact BK458.out) hb); have n3_ := Aside0.mk (below_step (by repeat (first | (with_reducible first | exact HB.out | apply below_alloc | apply pw_below_drewN | apply below_drew1 | refine below_set ?_ GE458.out) | exact HB.out)) hb); have n4_ := Aside0.mk (hbox); have n5_ := Aside0.mk ((by rw [hg]; exact (below_size (by repeat (first | (with_reducible first | exact HB.out | apply below_alloc | apply pw_below_drewN | apply below_drew1 | refine below_set ?_ GE458.out) | exact HB.out))) : w.heap.size ≤ gb468)); have n6_ := Aside0.mk ((by rw [hg]; exact (below_size (by repeat (first | (with_reducible first | exact HB.out | apply below_alloc | apply pw_below_drewN | apply below_drew1 | refine below_set ?_ GE458.out) | exact HB.out))) : w.heap.size ≤ gb468)); have n7_ := Aside0.mk ((by rw [hg]; exact Nat.ne_of_lt (blk_lt (g := gb458) (o := .cells #[.slice A0_0 l0_0.length c0_0] 24 (0, 0)) (by (with_reducible repeat (first | refine blk_drewN ?_ _ | refine blk_drew ?_ | refine blk_alloc ?_ _)); exact BK458.out)) : gb458 ≠ gb468)); have n8_ := Aside0.mk ((by rw [hg]; exact Nat.ne_of_gt (blk_lt (g := gb458) (o := .cells #[.slice A0_0 l0_0.length c0_0] 24 (0, 0)) (by (with_reducible repeat (first | refine blk_drewN ?_ _ | refine blk_drew ?_ | refine blk_alloc ?_ _)); exact BK458.out)) : gb468 ≠ gb458)); clear HO462; clear HO467; clear BK458; clear HB; have HO462 := n0_; have HO467 := n1_; have BK458 := n2_; have HB := n3_; have BK468 := n4_; have GW468 := n5_; have GE468 := n6_; have NB458_468 := n7_; have NB468_458 := n8_; clear n0_ n1_ n2_ n3_ n4_ n5_ n6_ n7_ n8_; clear hb hbox hg; obtain ⟨Ao22, co22, eo22⟩ := Kd.R_slice HO467.out; subst eo22; have hnb23 := NB468_458.out; have hnc23 := NB458_468.out; have hcz24_0 : w21.cell? ⟨gb468, 0, none⟩ = some (.slice none 0 0) := (blk_cell BK468.out 0).trans rfl; have hfz24_0 := blk_frozen BK468.out 0) | ((with_reducible refine gate_callee (f := 23) rfl ?_); refine goesL_ (some 24) rfl rfl Try.func23 (by kernel_rfl) rfl #[.agg #[.slice Ao22 t465.length co22]] rfl (by (try simp only [List.map_toArray, List.map_cons, List.map_nil]); first | done | rfl | (simp only [List.length_drop, List.length_take]; rfl)) ?_; (with_reducible refine (impl_SharedPrefix.calls k _ _ t465 t469 t470 _ ?side1 ?side2 A10.out).mono ?_); (case side1 => refine (Kd.R_reads' (e := 86) (base := w.heap.size) (ok := fun k_ => (True ∧ some k_ ≠ (.slice Ao17 t460.length co17 : Value).ownBlock)) (n := t465.length) (c := co22) ?_).2.2; exact (by (with_reducible repeat (first | apply Kd.R_alloc | apply Kd.R_drewN | apply Kd.R_drew)); exact (Kd.R_mono (R_same_ (Kd.R_far (p := ⟨gb468, 0, none⟩) (Kd.R_types HO467.out BK468.out (by decide)) (fun _ hk => hk.2) (.slice Ao22 t465.length co22)) rfl) (fun _ h_ => h_.1)))); (case side2 => exact (Kd.R_reads' HO467.out).2.1); rintro e w25 ⟨rfl, hb⟩; refine ⟨_, rfl, ?_⟩; have n0_ := Aside0.mk (Kd.R_below (by (with_reducible repeat (first | apply Kd.R_alloc | apply Kd.R_drewN | apply Kd.R_drew)); exact (Kd.R_mono (R_same_ (Kd.R_far (p := ⟨gb468, 0, none⟩) (Kd.R_types HO462.out BK468.out (by decide)) (fun _ hk => hk.2) (.slice Ao22 t465.length co22)) rfl) (fun _ h_ => h_.1))) hb); have n1_ := Aside0.mk (Kd.R_below (by (with_reducible repeat (first | apply Kd.R_alloc | apply Kd.R_drewN | apply Kd.R_drew)); exact (Kd.R_mono (R_same_ (Kd.R_far (p := ⟨gb468, 0, none⟩) (Kd.R_types HO467.out BK468.out (by decide)) (fun _ hk => hk.2) (.slice Ao22 t465.length co22)) rfl) (fun _ h_ => h_.1))) hb); have n2_ := Aside0.mk (blk_below (g := gb458) (o := .cells #[.slice A0_0 l0_0.length c0_0] 24 (0, 0)) (by (with_reducible repeat (first | refine blk_drewN ?_ _ | refine blk_drew ?_ | refine blk_alloc ?_ _)); refine blk_far ?_ NB458_468.out _; (with_reducible repeat (first | refine blk_drewN ?_ _ | refine blk_drew ?_ | refine blk_alloc ?_ _)); exact BK458.out) hb); have n3_ := Aside0.mk (blk_below (g := gb468) (o := .cells #[.slice Ao22 t465.length co22] 30 (0, 0)) (by (with_reducible repeat (first | refine blk_drewN ?_ _ | refine blk_drew ?_ | refine blk_alloc ?_ _)); refine blk_put (cs := #[.slice none 0 0]) ?_ 0 _ rfl; (with_reducible repeat (first | refine blk_drewN ?_ _ | refine blk_drew ?_ | refine blk_alloc ?_ _)); exact BK468.out) hb); have n4_ := Aside0.mk (below_step (by repeat (first | (with_reducible first | exact HB.out | apply below_alloc | apply pw_below_drewN | apply below_drew1 | refine below_set ?_ GE458.out | refine below_set ?_ GE468.out) | exact HB.out)) hb); clear HO462; clear HO467; clear BK458; clear BK468; clear HB; have HO462 := n0_; have HO467 := n1_; have BK458 := n2_; have BK468 := n3_; have HB := n4_; clear n0_ n1_ n2_ n3_ n4_; (try clear hb); (try clear hb2); (try clear hk); (try clear hi)))
    (try simp only [Act.put, List.setIfInBounds_toArray, List.set_cons_zero, List.set_cons_succ])
    go_cut [34] (fun v34 wc => ∃ (kq : Nat) (x34_10 : Bool), v34 = .bool x34_10 ∧ Aside0 (laws_FnExactSharedPrefix.j0 kq x34_10 l0_0 t465 = some true) ∧ Aside0 (kq ≤ k) ∧ Aside0 (Kd.R k86 86 wc w.heap.size (fun _ => True) (.slice Ao22 t465.length co22) t465) ∧ Aside0 (wc.heap[gb458]? = some (.cells #[(.slice A0_0 l0_0.length c0_0)] 24 (0, 0))) ∧ Aside0 (wc.heap[gb468]? = some (.cells #[(.slice Ao22 t465.length co22)] 30 (0, 0))) ∧ Aside0 (Below w.heap.size w wc))
    case first =>
      have H := HC11.out
      clear HC11
      by_cases c26 : t469.toList = t463.toList
      · rw [if_pos c26] at H
        have c26b0 : (t469.toList == t463.toList) = true := beq_iff_eq.mpr c26
        have c26b1 : (t469.toList != t463.toList) = false := bne_eq_false_iff_eq.mpr c26
        clear c26
        (first | rw [c26b0] | (simp only [i64_w, i32_w]; rw [c26b0]) | skip)
        have H' := Aside0.mk H
        clear H
        go_wp2
        go_meet
        case rel => exact ⟨_, ((t470 != t464)), (by first | rfl | (simp; done) | (simp [*]; done)), H', ⟨by first | omega | exact Nat.le_refl _⟩, ⟨by (with_reducible repeat (first | apply Kd.R_alloc | apply Kd.R_drewN | apply Kd.R_drew)); exact Kd.R_mono HO467.out (fun _ hk => trivial)⟩, ⟨by (with_reducible repeat (first | refine blk_drewN ?_ _ | refine blk_drew ?_ | refine blk_alloc ?_ _)); exact BK458.out⟩, ⟨by (with_reducible repeat (first | refine blk_drewN ?_ _ | refine blk_drew ?_ | refine blk_alloc ?_ _)); exact BK468.out⟩, ⟨by repeat (first | (with_reducible first | exact HB.out | apply below_alloc | apply pw_below_drewN | apply below_drew1 | refine below_set ?_ GE458.out | refine below_set ?_ GE468.out) | exact HB.out)⟩⟩
      · rw [if_neg c26] at H
        exact absurd H (by cases k <;> simp [laws_FnExactSharedPrefix.j0])
    case rest =>
      clear HC11
      try clear c1
      try clear c2
      try clear p2
      try clear c3
      try clear c3b0
      try clear c5
      try clear c15
      try clear c17
      try clear c22
      try clear c23
      try clear c26
      try clear c26b0
      try clear c26b1
      try clear hcz13_0
      try clear hcz15_0
      try clear hcz19_0
      try clear hcz24_0
      try clear hcz5_0
      try clear hfz13_0
      try clear hfz15_0
      try clear hfz19_0
      try clear hfz24_0
      try clear hfz5_0
      obtain ⟨kq, x34_10, rfl, HA, HJ10, HO_469000, BK458, BK468, HB⟩ := hcut
      cases kq with
      | zero => exact absurd HA.out (by simp [laws_FnExactSharedPrefix.j0])
      | succ kj10 =>
        have H := HA.out
        clear HA
        simp only [laws_FnExactSharedPrefix.j0] at H
        by_cases c27 : x34_10 = true
        · subst c27
          have H1 : (some false) = some true := by rw [if_pos rfl] at H; exact H
          exact absurd H1 (by simp)
        · replace c27 := Bool.eq_false_iff.mpr c27
          subst c27
          have H1 : ((laws_toTrie.f kj10 l0_0).bind fun t471 => ((laws_eqTrie.f kj10 t465 t471).bind fun t474 => (if t474 = true then (some true) else (some false)))) = some true := by rw [if_neg (show ¬ (false = true) by decide)] at H; exact H
          clear H
          have H := H1
          clear H1
          replace H := Option.bind_eq_some_iff.mp H
          obtain ⟨t471, A280, H⟩ := H
          replace H : ((laws_eqTrie.f kj10 t465 t471).bind fun t474 => (if t474 = true then (some true) else (some false))) = some true := H
          have A28 := Aside0.mk A280
          clear A280
          replace H := Option.bind_eq_some_iff.mp H
          obtain ⟨t474, A290, H⟩ := H
          replace H : (if t474 = true then (some true) else (some false)) = some true := H
          have A29 := Aside0.mk A290
          clear A290
          by_cases c30 : t474 = true
          · subst c30
            have H1 : (some true) = some true := rfl
            clear H
            have H := H1
            clear H1
            (first | (obtain rfl := Option.some.inj H) | (have hH_ := Option.some.inj H; try simp only [hH_]))
            try go_wp2
            have n0_ := Aside0.mk (Kd.R_drew HO_469000.out)
            have n1_ := Aside0.mk (blk_drew BK458.out)
            have n2_ := Aside0.mk (blk_drew BK468.out)
            have n3_ := Aside0.mk (below_drew1 HB.out)
            clear HO_469000
            clear BK458
            clear BK468
            clear HB
            have HO_469000 := n0_
            have BK458 := n1_
            have BK468 := n2_
            have HB := n3_
            clear n0_ n1_ n2_ n3_
            refine start_ (n := 5) (S := fun w' => w'.cell? ⟨gb468, 0, none⟩ = some (.slice Ao22 t465.length co22) ∧ w'.cell? ⟨gb458, 0, none⟩ = some (.slice A0_0 l0_0.length c0_0)) (ds := []) #[false, false, false, false, false] (by kernel_rfl) rfl rfl ⟨(blk_cell BK468.out 0).trans rfl, (blk_cell BK458.out 0).trans rfl⟩ (fun hHeld => ?_)
            generalize wc.drew = w31 at HO_469000 BK458 BK468 HB hHeld ⊢
            refine take_ (i := 0) (N := some 35) (v := ?_) (a' := ?_) #[true, false, false, false, false] rfl rfl (by kernel_rfl) (fun _ _ _ h => h) (Or.inl ⟨by rfl, ?_⟩) hHeld ?_ ?_
            rotate_left
            · rintro w' ⟨s0, s1⟩
              go_simp
              with_reducible rfl
            rotate_left
            · simp only [Act.put, List.setIfInBounds_toArray, List.set_cons_zero, List.set_cons_succ, i64_w, i32_w]
              rfl
            refine take_ (i := 1) (N := some 36) (v := ?_) (a' := ?_) #[true, true, false, false, false] rfl rfl (by kernel_rfl) (fun _ _ _ h => h) (Or.inl ⟨by rfl, ?_⟩) hHeld ?_ ?_
            rotate_left
            · rintro w' ⟨s0, s1⟩
              go_simp
              with_reducible rfl
            rotate_left
            · simp only [Act.put, List.setIfInBounds_toArray, List.set_cons_zero, List.set_cons_succ, i64_w, i32_w]
              rfl
            refine one_ (i := 2) (N := some 37) #[true, true, true, false, false] rfl rfl (by kernel_rfl) (by decide) (fun K hK => ?_)
            refine goes_ Try.func17 (by kernel_rfl) rfl #[.agg #[.slice A0_0 l0_0.length c0_0]] (by rfl) rfl rfl (by (try simp only [List.map_toArray, List.map_cons, List.map_nil]); first | done | rfl | (simp only [List.length_drop, List.length_take]; rfl)) ?_
            with_reducible refine (laws_toTrie.calls kj10 _ _ l0_0 t471 _ ?side1 ?side2 A28.out).mono ?_
            (case side1 => repeat (first | exact (Kd.C_below HR0_0.out HB.out) | (with_reducible refine Kd.C_alloc ?_ _) | (with_reducible refine Kd.C_drewN ?_ _) | (with_reducible refine Kd.C_drew ?_)))
            (case side2 => exact HC0_0.out)
            rintro e w32 ⟨v472, rfl, ho0, hb⟩
            refine ⟨_, rfl, ?_⟩
            have n0_ := Aside0.mk (Kd.R_elder' (by (with_reducible repeat (first | apply Kd.R_alloc | apply Kd.R_drewN | apply Kd.R_drew)); exact HO_469000.out) (Kd.R_base ho0) hb)
            have n1_ := Aside0.mk (Kd.R_lower (Kd.R_new' ho0 (Kd.R_lt (by (with_reducible repeat (first | apply Kd.R_alloc | apply Kd.R_drewN | apply Kd.R_drew)); exact HO_469000.out))) (below_size (by repeat (first | (with_reducible first | exact HB.out | apply below_alloc | apply pw_below_drewN | apply below_drew1 | refine below_set ?_ GE458.out | refine below_set ?_ GE468.out) | exact HB.out))))
            have n2_ := Aside0.mk (blk_below (g := gb458) (o := .cells #[.slice A0_0 l0_0.length c0_0] 24 (0, 0)) (by (with_reducible repeat (first | refine blk_drewN ?_ _ | refine blk_drew ?_ | refine blk_alloc ?_ _)); exact BK458.out) hb)
            have n3_ := Aside0.mk (blk_below (g := gb468) (o := .cells #[.slice Ao22 t465.length co22] 30 (0, 0)) (by (with_reducible repeat (first | refine blk_drewN ?_ _ | refine blk_drew ?_ | refine blk_alloc ?_ _)); exact BK468.out) hb)
            have n4_ := Aside0.mk (below_step (by repeat (first | (with_reducible first | exact HB.out | apply below_alloc | apply pw_below_drewN | apply below_drew1 | refine below_set ?_ GE458.out | refine below_set ?_ GE468.out) | exact HB.out)) hb)
            clear HO_469000
            clear BK458
            clear BK468
            clear HB
            have HO_469000 := n0_
            have HO473 := n1_
            have BK458 := n2_
            have BK468 := n3_
            have HB := n4_
            clear n0_ n1_ n2_ n3_ n4_
            (try clear hb)
            (try clear hb2)
            (try clear hk)
            (try clear hi)
            (try clear ho0)
            obtain ⟨Ao33, co33, eo33⟩ := Kd.R_slice HO473.out
            (first | subst eo33 | (injection eo33 with f1_ f2_ f3_; have f4_ := f1_.symm; have f5_ := f3_.symm; clear f1_ f2_ f3_; subst f4_; subst f5_))
            refine hK.out _ _ ⟨(blk_cell BK468.out 0).trans rfl, (blk_cell BK458.out 0).trans rfl⟩ (fun hHeld => ?_)
            clear hK K
            refine norm_ (a' := ?_) ?_ ?_
            rotate_left
            · show Act.put _ (some 37) _ = _
              simp only [Act.put, List.setIfInBounds_toArray, List.set_cons_zero, List.set_cons_succ, i64_w, i32_w]
              rfl
            refine one_ (i := 3) (N := some 38) #[true, true, true, true, false] rfl rfl (by kernel_rfl) (by decide) (fun K hK => ?_)
            refine goes_ Try.func19 (by kernel_rfl) rfl #[.agg #[.slice Ao22 t465.length co22], .agg #[.slice Ao33 t471.length co33]] (by rfl) rfl rfl (by (try simp only [List.map_toArray, List.map_cons, List.map_nil]); first | done | rfl | (simp only [List.length_drop, List.length_take]; rfl)) ?_
            with_reducible refine (laws_eqTrie.calls kj10 _ _ t465 _ _ t471 true _ ?side1 ?side2 ?side3 ?side4 A29.out).mono ?_
            (case side1 => repeat (first | exact (Kd.R_reads' HO_469000.out).2.2 | (with_reducible refine Kd.C_alloc ?_ _) | (with_reducible refine Kd.C_drewN ?_ _) | (with_reducible refine Kd.C_drew ?_)))
            (case side2 => exact (Kd.R_reads' HO_469000.out).2.1)
            (case side3 => repeat (first | exact (Kd.R_reads' HO473.out).2.2 | (with_reducible refine Kd.C_alloc ?_ _) | (with_reducible refine Kd.C_drewN ?_ _) | (with_reducible refine Kd.C_drew ?_)))
            (case side4 => exact (Kd.R_reads' HO473.out).2.1)
            rintro e w34 ⟨rfl, hb⟩
            refine ⟨_, rfl, ?_⟩
            have n0_ := Aside0.mk (Kd.R_below (by (with_reducible repeat (first | apply Kd.R_alloc | apply Kd.R_drewN | apply Kd.R_drew)); exact HO_469000.out) hb)
            have n1_ := Aside0.mk (Kd.R_below (by (with_reducible repeat (first | apply Kd.R_alloc | apply Kd.R_drewN | apply Kd.R_drew)); exact HO473.out) hb)
            have n2_ := Aside0.mk (blk_below (g := gb458) (o := .cells #[.slice A0_0 l0_0.length c0_0] 24 (0, 0)) (by (with_reducible repeat (first | refine blk_drewN ?_ _ | refine blk_drew ?_ | refine blk_alloc ?_ _)); exact BK458.out) hb)
            have n3_ := Aside0.mk (blk_below (g := gb468) (o := .cells #[.slice Ao22 t465.length co22] 30 (0, 0)) (by (with_reducible repeat (first | refine blk_drewN ?_ _ | refine blk_drew ?_ | refine blk_alloc ?_ _)); exact BK468.out) hb)
            have n4_ := Aside0.mk (below_step (by repeat (first | (with_reducible first | exact HB.out | apply below_alloc | apply pw_below_drewN | apply below_drew1 | refine below_set ?_ GE458.out | refine below_set ?_ GE468.out) | exact HB.out)) hb)
            clear HO_469000
            clear HO473
            clear BK458
            clear BK468
            clear HB
            have HO_469000 := n0_
            have HO473 := n1_
            have BK458 := n2_
            have BK468 := n3_
            have HB := n4_
            clear n0_ n1_ n2_ n3_ n4_
            (try clear hb)
            (try clear hb2)
            (try clear hk)
            (try clear hi)
            refine hK.out _ _ ⟨(blk_cell BK468.out 0).trans rfl, (blk_cell BK458.out 0).trans rfl⟩ (fun hHeld => ?_)
            clear hK K
            refine norm_ (a' := ?_) ?_ ?_
            rotate_left
            · show Act.put _ (some 38) _ = _
              simp only [Act.put, List.setIfInBounds_toArray, List.set_cons_zero, List.set_cons_succ, i64_w, i32_w]
              rfl
            refine pure_ (i := 4) (N := some 39) (v := ?_) (a' := ?_) #[true, true, true, true, true] rfl rfl (by kernel_rfl) (fun _ _ _ h => h) (Or.inl ⟨by rfl, ?_⟩) ?_ ?_
            rotate_left
            · intro w'
              go_simp
              with_reducible rfl
            rotate_left
            · simp only [Act.put, List.setIfInBounds_toArray, List.set_cons_zero, List.set_cons_succ, i64_w, i32_w]
              rfl
            refine done_ (by kernel_rfl) ?_
            try go_wp2
            go_ret
            exact ⟨by first | rfl | (simp [errW_none, errW_some] <;> rfl) | (simp [*, errW_none, errW_some] <;> rfl), by repeat (first | (with_reducible first | exact HB.out | apply below_alloc | apply pw_below_drewN | apply below_drew1 | refine below_set ?_ GE458.out | refine below_set ?_ GE468.out) | exact HB.out)⟩
          · replace c30 := Bool.eq_false_iff.mpr c30
            subst c30
            have H1 : (some false) = some true := by rw [if_neg (show ¬ (false = true) by decide)] at H; exact H
            exact absurd H1 (by simp)
end Go.Proofs.Ytbedgcngoddkdaa.Q
namespace Go.Proofs.Ytbedgcngoddkdaa.Q
open Go.RowKit Go.Proofs.YtbedgcngoddkdaaW.PrintWords Go.Proofs.YtbedgcngoddkdaaW.PrintLast
theorem begins_eq3 (a b : ByteArray) : spec_l2Begins.f a b = some (begW a b) := by
  unfold spec_l2Begins.f begW
  by_cases h : b.size ≤ a.size
  · rw [if_pos (by omega), if_pos (by omega), if_pos (by omega), decide_eq_true h, Bool.true_and, Int.toNat_natCast]
    exact congrArg some (by rw [Bool.eq_iff_iff, beq_iff_eq, decide_eq_true_eq])
  · rw [if_neg (by omega), decide_eq_false h, Bool.false_and]
theorem under3_l0 (ws : List ByteArray) (p : ByteArray) (hl : ws.length ≤ 1000000) : ∀ (n i : Nat) (acc : List ByteArray), i + n = ws.length → acc.length ≤ i → Ev (fun k => spec_l3Under.l0 k ws p acc (i : Int)) (acc ++ (ws.drop i).filter fun w => begW w p) := by
  intro n
  induction n with
  | zero =>
    intro i acc h ha
    refine Ev.succ ?_
    simp only [spec_l3Under.l0]
    rw [List.drop_of_length_le (by omega), List.filter_nil, List.append_nil]
    exact Ev.neg (by omega) (Ev.pure _)
  | succ n ih =>
    intro i acc h ha
    refine Ev.succ ?_
    simp only [spec_l3Under.l0]
    have hi : i < ws.length := by omega
    rw [List.drop_eq_getElem_cons hi, rd_nat ws hi, wnext i (by omega), List.filter_cons]
    refine Ev.pos (by omega) (Ev.pos (by omega) (Ev.bindc (begins_eq3 _ _) ?_))
    by_cases e : begW ws[i] p = true
    · rw [if_pos e]
      have := ih (i + 1) (acc ++ [ws[i]]) (by omega) (by simp; omega)
      rw [List.append_assoc] at this
      exact Ev.pos e (Ev.pos (by omega) this)
    · rw [if_neg e]
      exact Ev.neg e (ih (i + 1) acc (by omega) (by omega))
theorem under3_ev (ws : List ByteArray) (p : ByteArray) (hl : ws.length ≤ 1000000) : Ev (fun k => spec_l3Under.f k ws p) (ws.filter fun w => begW w p) := by
  unfold spec_l3Under.f
  exact under3_l0 ws p hl ws.length 0 [] (by omega) (Nat.le_refl _)
theorem begW_iff (w p : ByteArray) : begW w p = true ↔ p.size ≤ w.size ∧ (lw w).take p.size = lw p := by
  unfold begW
  rw [Bool.and_eq_true, decide_eq_true_eq, decide_eq_true_eq]
  refine and_congr Iff.rfl ⟨fun h => ?_, fun h => ?_⟩
  · rw [← lw_extract]
    have h2 : ∀ a b : ByteArray, a.toList = b.toList → a = b := fun a b e => by
      rw [Lib.toList_data, Lib.toList_data] at e
      exact lw_inj e
    rw [h2 _ _ h]
  · rw [← lw_extract] at h
    rw [lw_inj h]
end Go.Proofs.Ytbedgcngoddkdaa.Q
namespace Go.Proofs.Ytbedgcngoddkdaa.Q
open Go.RowKit Go.Proofs.YtbedgcngoddkdaaW.PrintWords Go.Proofs.YtbedgcngoddkdaaW.PrintLast
theorem take_mono : ∀ (n : Nat) (x y : Ws), x.take n < y.take n → x < y
  | 0, x, y, h => by simp at h
  | n + 1, [], [], h => by simp at h
  | n + 1, [], b :: y, _ => List.nil_lt_cons _ _
  | n + 1, a :: x, [], h => by simp at h
  | n + 1, a :: x, b :: y, h => by
    rw [List.take_succ_cons, List.take_succ_cons, List.cons_lt_cons_iff] at h
    rw [List.cons_lt_cons_iff]
    rcases h with h | ⟨h1, h2⟩
    · exact .inl h
    · exact .inr ⟨h1, take_mono n x y h2⟩
theorem take_le {x y : Ws} (h : x ≤ y) (n : Nat) : x.take n ≤ y.take n := fun hlt => h (take_mono n y x hlt)
theorem between {x y z : Ws} (h1 : x ≤ y) (h2 : y ≤ z) {n : Nat} (e : x.take n = z.take n) : y.take n = x.take n := by
  have a := take_le h1 n
  have b := take_le h2 n
  rw [← e] at b
  exact List.le_antisymm b a
end Go.Proofs.Ytbedgcngoddkdaa.Q
namespace Go.Proofs.Ytbedgcngoddkdaa.Q
open Go.RowKit Go.Proofs.YtbedgcngoddkdaaW.PrintWords Go.Proofs.YtbedgcngoddkdaaW.PrintLast
theorem lcp_le : ∀ (a b : List UInt8), lcpN a b ≤ a.length ∧ lcpN a b ≤ b.length
  | [], b => by simp [lcpN]
  | _ :: _, [] => by simp [lcpN]
  | x :: a, y :: b => by
    have := lcp_le a b
    simp only [lcpN, List.length_cons]
    split <;> omega
theorem lcp_take : ∀ (a b : List UInt8) (n : Nat), n ≤ a.length → n ≤ b.length → (a.take n = b.take n ↔ n ≤ lcpN a b)
  | [], b, n, h1, _ => by simp at h1; simp [h1]
  | _ :: _, [], n, _, h2 => by simp at h2; simp [h2]
  | x :: a, y :: b, 0, _, _ => by simp
  | x :: a, y :: b, n + 1, h1, h2 => by
    simp only [List.length_cons] at h1 h2
    simp only [List.take_succ_cons, List.cons.injEq, lcpN]
    rw [lcp_take a b n (by omega) (by omega)]
    split
    · rename_i e; simp [e]
    · rename_i e; simp [e]
theorem all_begin {ws : List ByteArray} (hs : SW ws) (h0 : 0 < ws.length) (n : Nat) (hn : n ≤ (rdOf ByteArray.empty ws 0).size) :
    ((ws.filter fun w => begW w ((rdOf ByteArray.empty ws 0).extract 0 n)).length = ws.length) ↔ n ≤ lcpN (lw (rdOf ByteArray.empty ws 0)) (lw (rdOf ByteArray.empty ws ((ws.length : Int) - 1))) := by
  rw [List.length_filter_eq_length_iff]
  have hsz := ext_size (rdOf ByteArray.empty ws 0) n hn
  have hla := lw_length (rdOf ByteArray.empty ws 0)
  have hlb := lw_length (rdOf ByteArray.empty ws ((ws.length : Int) - 1))
  constructor
  · intro h
    have hm : rdOf ByteArray.empty ws ((ws.length : Int) - 1) ∈ ws := at_mem (by omega) (by omega)
    obtain ⟨a, b⟩ := (begW_iff _ _).1 (h _ hm)
    rw [hsz] at a b
    rw [lw_extract] at b
    exact (lcp_take _ _ n (by omega) (by omega)).1 b.symm
  · intro h w hw
    obtain ⟨hl1, hl2⟩ := lcp_le (lw (rdOf ByteArray.empty ws 0)) (lw (rdOf ByteArray.empty ws ((ws.length : Int) - 1)))
    obtain ⟨i, i0, i1, e⟩ := mem_at hw
    have h1 := hs.at (i := 0) (j := i) (by omega) i0 i1
    have h2 := hs.at (i := i) (j := (ws.length : Int) - 1) i0 (by omega) (by omega)
    unfold atW at h1 h2
    rw [e] at h1 h2
    have ht := (lcp_take _ _ n (by omega) (by omega)).2 h
    have hb := between h1 h2 ht
    rw [begW_iff, hsz, lw_extract]
    refine ⟨?_, hb⟩
    have := congrArg List.length hb
    rw [List.length_take, List.length_take, hla, lw_length] at this
    omega
theorem shared_l0 {ws : List ByteArray} (hs : SW ws) (h0 : 0 < ws.length) (hl : ws.length ≤ 1000000) (hz : (rdOf ByteArray.empty ws 0).size ≤ 1000000) : ∀ (d n : Nat), n = lcpN (lw (rdOf ByteArray.empty ws 0)) (lw (rdOf ByteArray.empty ws ((ws.length : Int) - 1))) + d → n ≤ (rdOf ByteArray.empty ws 0).size →
    Ev (fun k => spec_l3Shared.l0 k ws ((rdOf ByteArray.empty ws 0).extract 0 n)) ((rdOf ByteArray.empty ws 0).extract 0 (lcpN (lw (rdOf ByteArray.empty ws 0)) (lw (rdOf ByteArray.empty ws ((ws.length : Int) - 1))))) := by
  intro d
  induction d with
  | zero =>
    intro n hn hle
    refine Ev.succ ?_
    simp only [spec_l3Shared.l0]
    refine Ev.bind (under3_ev ws _ hl) (Ev.neg ?_ ?_)
    · rw [(all_begin hs h0 n hle).2 (by omega)]; omega
    · rw [show n = lcpN (lw (rdOf ByteArray.empty ws 0)) (lw (rdOf ByteArray.empty ws ((ws.length : Int) - 1))) by omega]
      exact Ev.pure _
  | succ d ih =>
    intro n hn hle
    have hsz := ext_size (rdOf ByteArray.empty ws 0) n hle
    refine Ev.succ ?_
    simp only [spec_l3Shared.l0]
    refine Ev.bind (under3_ev ws _ hl) (Ev.pos ?_ ?_)
    · have h1 := List.length_filter_le (fun w => begW w ((rdOf ByteArray.empty ws 0).extract 0 n)) ws
      have h2 : ¬ (ws.filter fun w => begW w ((rdOf ByteArray.empty ws 0).extract 0 n)).length = ws.length := fun e => by
        have := (all_begin hs h0 n hle).1 e
        omega
      omega
    · have e : wrap64 ((((rdOf ByteArray.empty ws 0).extract 0 n).size : Int) - 1) = ((n - 1 : Nat) : Int) := by rw [hsz]; unfold wrap64; omega
      rw [e, hsz, Int.toNat_natCast, ext_ext _ _ _ (by omega)]
      exact Ev.pos (by omega) (Ev.pos (by omega) (ih (n - 1) (by omega) (by omega)))
theorem shared_ev {ws : List ByteArray} (hs : SW ws) (h0 : 0 < ws.length) (hl : ws.length ≤ 1000000) (hz : (rdOf ByteArray.empty ws 0).size ≤ 1000000) : Ev (fun k => spec_l3Shared.f k ws) ((rdOf ByteArray.empty ws 0).extract 0 (lcpN (lw (rdOf ByteArray.empty ws 0)) (lw (rdOf ByteArray.empty ws ((ws.length : Int) - 1))))) := by
  obtain ⟨hl1, _⟩ := lcp_le (lw (rdOf ByteArray.empty ws 0)) (lw (rdOf ByteArray.empty ws ((ws.length : Int) - 1)))
  have hla := lw_length (rdOf ByteArray.empty ws 0)
  have := shared_l0 hs h0 hl hz ((rdOf ByteArray.empty ws 0).size - lcpN (lw (rdOf ByteArray.empty ws 0)) (lw (rdOf ByteArray.empty ws ((ws.length : Int) - 1)))) (rdOf ByteArray.empty ws 0).size (by omega) (Nat.le_refl _)
  rw [ext_all] at this
  unfold spec_l3Shared.f
  exact Ev.pos (by omega) this
theorem implShared {ws : List ByteArray} (h0 : 0 < ws.length) (hl : ws.length ≤ 1000000) (hz : ∀ w ∈ ws, w.size ≤ 1000000) : impl_shared.f ws = some ((rdOf ByteArray.empty ws 0).extract 0 (lcpN (lw (rdOf ByteArray.empty ws 0)) (lw (rdOf ByteArray.empty ws ((ws.length : Int) - 1))))) := by
  have h1 := hz _ (at_mem (l := ws) (i := 0) (by omega) (by omega))
  have h2 := hz _ (at_mem (l := ws) (i := (ws.length : Int) - 1) (by omega) (by omega))
  unfold impl_shared.f
  rw [if_pos ⟨h0, by omega, by omega, by omega⟩]
end Go.Proofs.Ytbedgcngoddkdaa.Q
