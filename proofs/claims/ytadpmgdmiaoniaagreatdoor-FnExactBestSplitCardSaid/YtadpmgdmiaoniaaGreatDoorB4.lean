import Derived.Test.YtadpmgdmiaoniaaGreatDoorB0
import Derived.Test.YtadpmgdmiaoniaaGreatDoorB1
import Derived.Test.YtadpmgdmiaoniaaGreatDoorB2
import Derived.Test.YtadpmgdmiaoniaaGreatDoorB3
import Derived.Test.YtadpmgdmiaoniaaGreatDoorBwWords
import Derived.Test.YtadpmgdmiaoniaaGreatDoorBwLast
import Derived.Test.YtadpmgdmiaoniaaGreatDoorBwTab
import Derived.Test.YtadpmgdmiaoniaaGreatDoorBwApart
import Derived.Test.YtadpmgdmiaoniaaGreatDoorBwFoot
import Derived.Test.YtadpmgdmiaoniaaGreatDoorBwKept
import Derived.Test.YtadpmgdmiaoniaaGreatDoorBwShare
import Derived.Test.YtadpmgdmiaoniaaGreatDoorBwN
import Derived.Test.YtadpmgdmiaoniaaGreatDoorBwAt
import Derived.Test.YtadpmgdmiaoniaaGreatDoorBwEqStruct
import Derived.Test.YtadpmgdmiaoniaaGreatDoorBwRepsOne
import Derived.Test.YtadpmgdmiaoniaaGreatDoorBwGuard
import Derived.Test.YtadpmgdmiaoniaaGreatDoorBwMore
import Derived.Test.YtadpmgdmiaoniaaGreatDoorProg
import Derived.Below
import Derived.Deep.Draws
import Derived.Deep.AppendLies
import Derived.Maps.AppendAt
import Derived.OwnWalk
import Derived.Laws.BytesArg
import Derived.Laws.MakeOwn
import Derived.Laws.OwnMore
import Derived.Deep.OwnRows
import Derived.Tactics
import Derived.Lib.ConvBytes
import Derived.Laws.Slices
import Derived.WalkKit
import Derived.KernelRfl
import Derived.RowKit3
import Derived.Deep.LoopGhost
import Derived.Deep.QuietTactic
import Derived.BigQuiet
import Derived.WideLaws
import Derived.Deep.DeepCutAuto
import Derived.Deep.CutBlock
import Derived.Deep.RegionHeld3
import Derived.Laws.Rows
import Derived.Lib.AppendStr
import Derived.ArgAppend
import Derived.Laws.IdiomCopy
import Derived.OrdersHeld
import Derived.Laws.BitsLemmas
import Derived.RowKit
import Derived.Lib.SlicesCompact
import Derived.Shelf.Strings.SlTrimAscii
import Derived.Ground.NamesProg
import Derived.Ground.SlgfProg
import Derived.Maps.Own
import Derived.StringKeys
import Derived.Maps.OwnOps
import Derived.Maps.OwnSet
import Derived.Maps.Views
import Derived.Laws.AppendOwn
import Derived.Deep.DrawnRows
import Derived.Shelf.Sort.Plain
import Derived.Shelf.Slices.CompactS
import Derived.Shelf.Slices.In.SortNone
import Derived.RangeFuncBox
import Derived.RangeFuncLeaves
import Derived.Shelf.Abstract
import Derived.OwnWalkIn
import Derived.TacticsInMore
import Derived.LoopNIn
import Derived.LoopIn
import Derived.Lib.OwnBridge
import Derived.Sort.OwnSorted
import Derived.Sort.Grow
import Derived.Shelf.Strings.OnBuilder
import Derived.Sort.Walk0
import Derived.Lib.Strings
import Derived.Shelf.SlicesE.DeleteFunc
import Derived.Lib.SliceRun
import Derived.Sort.OwnSortedInts
import Derived.Shelf.RegionOpen
import Derived.Sort.QuietIn
set_option linter.unusedVariables false
set_option linter.unusedSimpArgs false
namespace Go.Proofs.YtadpmgdmiaoniaaGreatDoor.Q
open Go.RowKit Go.Proofs.YtadpmgdmiaoniaaGreatDoorW.PrintWords Go.Proofs.YtadpmgdmiaoniaaGreatDoorW.PrintLast Go.Proofs.YtadpmgdmiaoniaaGreatDoorW.PrintMore
attribute [local go_sem] run_field_23 run_field_24 run_field_30 run_field_31 isSome_setCell max2_int min2_int max_two min_two max_three min_three max_four min_four   -- for this text's walks alone
set_option linter.unusedVariables false
set_option linter.unusedSimpArgs false
def impl_isTrie.j0:Nat→Bool→List (S70)→Option (Bool)
  | 0,_,_=>none
  | k+1,x16,x407000=>if x16=true then (some false) else ((impl_Trie_words.f k x407000).bind fun t412=>(if (t412.length:Int)≤40 then ((slices_IsSorted_string_string.f k t412).bind fun t415=>(if t415=true then ((impl_trieOf.f t412).bind fun t416=>((impl_Node.f k t416 x407000).bind fun t419=>(some t419))) else (some false))) else (some false)))
def impl_isTrie.f (k:Nat) (l0_0:List (S70)):Option (Bool):=(impl_Trie_prefixes.f k l0_0).bind fun bt407=>(if bt407.2=true then ((slices_ContainsFunc_string_string_impl_isTrie_1.f bt407.1).bind fun t411=>(impl_isTrie.j0 k t411 l0_0)) else (impl_isTrie.j0 k true l0_0))
def impl_isTrie.T5:Bool × List (List Nat × List Nat):=(true,[([],[]),([0],[0]),([1],[1]),([2],[2]),([3],[3]),([4,3,3],[3,4]),([3,5],[3,5]),([6,5],[6]),([7],[7]),([8,7,7],[7,8]),([9,7],[7,9]),([7],[7]),([11,7],[7,11]),([10,12,9,7],[7,10,12]),([7,13],[7,13]),([14,13,0,1,2,3,4,5,6,7,8,9,10,11,12,13,14],[14])])
def impl_isTrie.B5:List Nat:=[0,1,3,7,15,31,63,127,255,511,1023,255,2303,8191,16383,32767]
theorem impl_isTrie.tab5:rtab .any (opsOf Tryz.f46 5)=impl_isTrie.T5:=by kernel_rfl
theorem impl_isTrie.bits5:waitsOk impl_isTrie.T5.2 impl_isTrie.B5=true:=by kernel_rfl
set_option maxHeartbeats 8000000 in
set_option maxRecDepth 100000 in
theorem impl_isTrie.calls (k:Nat) (A0_0:Option Addr) (c0_0:Nat) (l0_0:List (S70)) (r:Bool) (w:World) (hr0_0:Kd.C k70 w A0_0 l0_0.length l0_0) (hc0_0:l0_0.length≤c0_0) (h:impl_isTrie.f k l0_0=some r) :
  Calls Tryz.prog 46 #[.agg #[.slice A0_0 l0_0.length c0_0]] w fun e w'=>e=.returned (.bool r)∧Below w.heap.size w w':=by
 have hu31:=Tryz.underlying31
 have HR0_0:=Zz.mk hr0_0
 have HC0_0:=Zz.mk hc0_0
 clear hr0_0 hc0_0
 have HB:=Zz.mk (Below.refl w.heap.size w)
 have H:((impl_Trie_prefixes.f k l0_0).bind fun bt407=>(if bt407.2=true then ((slices_ContainsFunc_string_string_impl_isTrie_1.f bt407.1).bind fun t411=>(impl_isTrie.j0 k t411 l0_0)) else (impl_isTrie.j0 k true l0_0)))=some r:=h
 clear h
 replace H:=Option.bind_eq_some_iff.mp H
 obtain ⟨⟨t407,t410⟩,A20,H⟩:=H
 replace H:(if t410=true then ((slices_ContainsFunc_string_string_impl_isTrie_1.f t407).bind fun t411=>(impl_isTrie.j0 k t411 l0_0)) else (impl_isTrie.j0 k true l0_0))=some r:=H
 have A2:=Zz.mk A20
 clear A20
 have HC3:=Zz.mk H
 clear H
 go_enter Tryz.func46,Tryz.ntmps46
 go_upto_region 2 with (first|((with_reducible refine gate_dst (N:=1) rfl ?_);refine box_event ?hg (N:=1) ?hd (cs:=#[.slice A0_0 l0_0.length c0_0]) (t:=31) ?hr ?_;(case hd=>rfl);(case hg=>rfl);(case hr=>first|(go_simp;done)|(go_simp;rfl));intro gb406 hg w4 hbox hb;have n0_:=Zz.mk (qP (by repeat (first|(with_reducible first|exact HB.out|apply qA|apply qN|apply q1_)|exact HB.out)) hb);have n1_:=Zz.mk (hbox);have n2_:=Zz.mk ((by rw [hg];exact (qZ (by repeat (first|(with_reducible first|exact HB.out|apply qA|apply qN|apply q1_)|exact HB.out))):w.heap.size≤gb406));have n3_:=Zz.mk ((by rw [hg];exact (qZ (by repeat (first|(with_reducible first|exact HB.out|apply qA|apply qN|apply q1_)|exact HB.out))):w.heap.size≤gb406));clear HB;have HB:=n0_;have BK406:=n1_;have GW406:=n2_;have GE406:=n3_;clear n0_ n1_ n2_ n3_;clear hb hbox hg;have hcz5_0:w4.cell? ⟨gb406,0,none⟩=some (.slice A0_0 l0_0.length c0_0):=(bC BK406.out 0).trans rfl;have hfz5_0:=bF BK406.out 0)|((with_reducible refine gate_callee (f:=57) rfl ?_);refine goesL_ (some 8) rfl rfl Tryz.func57 (by kernel_rfl) rfl #[.agg #[.slice A0_0 l0_0.length c0_0]] rfl (by (try simp only [List.map_toArray,List.map_cons,List.map_nil]);first|done|rfl|(simp only [List.length_drop,List.length_take];rfl)) ?_;(with_reducible refine (impl_Trie_prefixes.calls k _ _ l0_0 t407 t410 _ ?side1 ?side2 A2.out).mono ?_);(case side1=>repeat (first|exact (Kd.C_below HR0_0.out HB.out)|(with_reducible refine Kd.C_alloc ?_ _)|(with_reducible refine Kd.C_drewN ?_ _)|(with_reducible refine Kd.C_drew ?_)));(case side2=>exact HC0_0.out);rintro e w6 ⟨v408,rfl,ho0,hb⟩;refine ⟨_,rfl,?_⟩;have n0_:=Zz.mk (Kd.R_lower ho0 (qZ (by repeat (first|(with_reducible first|exact HB.out|apply qA|apply qN|apply q1_|refine qS ?_ GE406.out)|exact HB.out))));have n1_:=Zz.mk (bB (g:=gb406) (o:=.cells #[.slice A0_0 l0_0.length c0_0] 31 (0,0)) (by (with_reducible repeat first|apply bN|apply bD|apply bA);exact BK406.out) hb);have n2_:=Zz.mk (qP (by repeat (first|(with_reducible first|exact HB.out|apply qA|apply qN|apply q1_|refine qS ?_ GE406.out)|exact HB.out)) hb);clear BK406;clear HB;have HO409:=n0_;have BK406:=n1_;have HB:=n2_;clear n0_ n1_ n2_;(try clear hb);(try clear hb2);(try clear hk);(try clear hi);(try clear ho0)))
 (try simp only [Act.put,List.setIfInBounds_toArray,List.set_cons_zero,List.set_cons_succ])
 go_cut [16] (fun v16 wc=>∃ (kq:Nat) (x16_2:Bool),v16=.bool x16_2∧Zz (impl_isTrie.j0 kq x16_2 l0_0=some r)∧Zz (kq≤k)∧Zz (wc.heap[gb406]?=some (.cells #[(.slice A0_0 l0_0.length c0_0)] 31 (0,0)))∧Zz (Below w.heap.size w wc))
 case first =>
  have H:=HC3.out
  clear HC3
  by_cases c7:t410=true
  ·subst c7
   have H1:((slices_ContainsFunc_string_string_impl_isTrie_1.f t407).bind fun t411=>(impl_isTrie.j0 k t411 l0_0))=some r:=by rw [if_pos rfl] at H;exact H
   clear H
   have H:=H1
   clear H1
   replace H:=Option.bind_eq_some_iff.mp H
   obtain ⟨t411,A80,H⟩:=H
   replace H:(impl_isTrie.j0 k t411 l0_0)=some r:=H
   have A8:=Zz.mk A80
   clear A80
   have H':=Zz.mk H
   clear H
   obtain ⟨Ao9,co9,eo9⟩:=Kd.R_slice HO409.out
   subst eo9
   go_wp2_with (first|(go_at_call 58;(with_reducible refine (slices_ContainsFunc_string_string_impl_isTrie_1.calls _ _ t407 t411 _ ?side1 ?side2 A8.out).mono ?_);(case side1=>repeat (first|exact (Kd.R_reads' HO409.out).2.2|(with_reducible refine Kd.C_alloc ?_ _)|(with_reducible refine Kd.C_drewN ?_ _)|(with_reducible refine Kd.C_drew ?_)));(case side2=>exact (Kd.R_reads' HO409.out).2.1);rintro e w' ⟨rfl,⟨nd,rfl⟩⟩))
   go_meet
   case rel=>exact ⟨_,(t411),(by first|rfl|(simp;done)|(simp [*];done)),H',⟨by first|omega|exact Nat.le_refl _⟩,⟨by (with_reducible repeat first|apply bN|apply bD|apply bA);exact BK406.out⟩,⟨by repeat (first|(with_reducible first|exact HB.out|apply qA|apply qN|apply q1_|refine qS ?_ GE406.out)|exact HB.out)⟩⟩
  ·replace c7:=Bool.eq_false_iff.mpr c7
   subst c7
   have H1:(impl_isTrie.j0 k true l0_0)=some r:=by rw [if_neg (show ¬ (false=true) by decide)] at H;exact H
   clear H
   have H:=H1
   clear H1
   have H':=Zz.mk H
   clear H
   go_wp2
   go_meet
   case rel=>exact ⟨_,(true),(by first|rfl|(simp;done)|(simp [*];done)),H',⟨by first|omega|exact Nat.le_refl _⟩,⟨by (with_reducible repeat first|apply bN|apply bD|apply bA);exact BK406.out⟩,⟨by repeat (first|(with_reducible first|exact HB.out|apply qA|apply qN|apply q1_|refine qS ?_ GE406.out)|exact HB.out)⟩⟩
 case rest =>
  clear HC3
  try clear p2
  try clear c4
  try clear c5
  try clear c7
  try clear hcz5_0
  try clear hfz5_0
  obtain ⟨kq,x16_2,rfl,HA,HJ2,BK406,HB⟩:=hcut
  cases kq with
  | zero=>exact absurd HA.out (by simp [impl_isTrie.j0])
  | succ kj2 =>
   have H:=HA.out
   clear HA
   simp only [impl_isTrie.j0] at H
   by_cases c10:x16_2=true
   ·subst c10
    have H1:(some false)=some r:=by rw [if_pos rfl] at H;exact H
    clear H
    have H:=H1
    clear H1
    obtain rfl:=Option.some.inj H
    go_wp2
    go_ret
    exact ⟨by first|rfl|(simp [errW_none,errW_some] <;> rfl)|(simp [*,errW_none,errW_some] <;> rfl),by repeat (first|(with_reducible first|exact HB.out|apply qA|apply qN|apply q1_|refine qS ?_ GE406.out)|exact HB.out)⟩
   ·replace c10:=Bool.eq_false_iff.mpr c10
    subst c10
    have H1:((impl_Trie_words.f kj2 l0_0).bind fun t412=>(if (t412.length:Int)≤40 then ((slices_IsSorted_string_string.f kj2 t412).bind fun t415=>(if t415=true then ((impl_trieOf.f t412).bind fun t416=>((impl_Node.f kj2 t416 l0_0).bind fun t419=>(some t419))) else (some false))) else (some false)))=some r:=by rw [if_neg (show ¬ (false=true) by decide)] at H;exact H
    clear H
    have H:=H1
    clear H1
    replace H:=Option.bind_eq_some_iff.mp H
    obtain ⟨t412,A110,H⟩:=H
    replace H:(if (t412.length:Int)≤40 then ((slices_IsSorted_string_string.f kj2 t412).bind fun t415=>(if t415=true then ((impl_trieOf.f t412).bind fun t416=>((impl_Node.f kj2 t416 l0_0).bind fun t419=>(some t419))) else (some false))) else (some false))=some r:=H
    have A11:=Zz.mk A110
    clear A110
    by_cases c12:(t412.length:Int)≤40
    ·rw [if_pos c12] at H
     have c12b0:decide ((t412.length:Int)≤40)=true:=decide_eq_true c12
     have c12b1:decide (t412.length≤40)=true:=decide_eq_true (by omega)
     clear c12
     replace H:=Option.bind_eq_some_iff.mp H
     obtain ⟨t415,A130,H⟩:=H
     replace H:(if t415=true then ((impl_trieOf.f t412).bind fun t416=>((impl_Node.f kj2 t416 l0_0).bind fun t419=>(some t419))) else (some false))=some r:=H
     have A13:=Zz.mk A130
     clear A130
     by_cases c14:t415=true
     ·subst c14
      have H1:((impl_trieOf.f t412).bind fun t416=>((impl_Node.f kj2 t416 l0_0).bind fun t419=>(some t419)))=some r:=by rw [if_pos rfl] at H;exact H
      clear H
      have H:=H1
      clear H1
      replace H:=Option.bind_eq_some_iff.mp H
      obtain ⟨t416,A150,H⟩:=H
      replace H:((impl_Node.f kj2 t416 l0_0).bind fun t419=>(some t419))=some r:=H
      have A15:=Zz.mk A150
      clear A150
      replace H:=Option.bind_eq_some_iff.mp H
      obtain ⟨t419,A160,H⟩:=H
      replace H:(some t419)=some r:=H
      have A16:=Zz.mk A160
      clear A160
      obtain rfl:=Option.some.inj H
      have hcz17_0:wc.cell? ⟨gb406,0,none⟩=some (.slice A0_0 l0_0.length c0_0):=(bC BK406.out 0).trans rfl
      have hfz17_0:=bF BK406.out 0
      try go_wp2_with (first|((with_reducible refine gate_callee (f:=47) rfl ?_);refine goesL_ (some 18) rfl rfl Tryz.func47 (by kernel_rfl) rfl #[.agg #[.slice A0_0 l0_0.length c0_0]] rfl (by (try simp only [List.map_toArray,List.map_cons,List.map_nil]);first|done|rfl|(simp only [List.length_drop,List.length_take];rfl)) ?_;(with_reducible refine (impl_Trie_words.calls kj2 _ _ l0_0 t412 _ ?side1 ?side2 A11.out).mono ?_);(case side1=>repeat (first|exact (Kd.C_below HR0_0.out HB.out)|(with_reducible refine Kd.C_alloc ?_ _)|(with_reducible refine Kd.C_drewN ?_ _)|(with_reducible refine Kd.C_drew ?_)));(case side2=>exact HC0_0.out);rintro e w18 ⟨v413,rfl,ho0,hb⟩;refine ⟨_,rfl,?_⟩;have n0_:=Zz.mk (Kd.R_lower ho0 (qZ (by repeat (first|(with_reducible first|exact HB.out|apply qA|apply qN|apply q1_|refine qS ?_ GE406.out)|exact HB.out))));have n1_:=Zz.mk (bB (g:=gb406) (o:=.cells #[.slice A0_0 l0_0.length c0_0] 31 (0,0)) (by (with_reducible repeat first|apply bN|apply bD|apply bA);exact BK406.out) hb);have n2_:=Zz.mk (qP (by repeat (first|(with_reducible first|exact HB.out|apply qA|apply qN|apply q1_|refine qS ?_ GE406.out)|exact HB.out)) hb);clear BK406;clear HB;have HO414:=n0_;have BK406:=n1_;have HB:=n2_;clear n0_ n1_ n2_;(try clear hb);(try clear hb2);(try clear hk);(try clear hi);(try clear ho0)))
      have n0_:=Zz.mk (Kd.R_drew HO414.out)
      have n1_:=Zz.mk (bD BK406.out)
      have n2_:=Zz.mk (q1_ HB.out)
      clear HO414
      clear BK406
      clear HB
      have HO414:=n0_
      have BK406:=n1_
      have HB:=n2_
      clear n0_ n1_ n2_
      obtain ⟨Ao20,co20,eo20⟩:=Kd.R_slice HO414.out
      (first|subst eo20|(injection eo20 with f1_ f2_ f3_;have f4_:=f1_.symm;have f5_:=f3_.symm;clear f1_ f2_ f3_;subst f4_;subst f5_))
      refine start_ (n:=16) (S:=fun w'=>w'.cell? ⟨gb406,0,none⟩=some (.slice A0_0 l0_0.length c0_0)) (ds:=[]) #[false,false,false,false,false,false,false,false,false,false,false,false,false,false,false,false] (by kernel_rfl) rfl rfl ((bC BK406.out 0).trans rfl) (fun hHeld=>?_);refine with_tabW impl_isTrie.tab5 impl_isTrie.bits5 (fun HT_ HW_=>?_)
      generalize w18.drew=w19 at HO414 BK406 HB hHeld ⊢
      refine pure_ (i:=0) (N:=some 19) (v:=?_) (a':=?_) #[true,false,false,false,false,false,false,false,false,false,false,false,false,false,false,false] rfl rfl (any_of HT_.out (by kernel_rfl)) (fun _ _ _ h=>h) (Or.inl ⟨by rfl,?_⟩) ?_ ?_
      rotate_left
      ·intro w'
       go_simp
       with_reducible rfl
      rotate_left
      ·simp only [Act.put,List.setIfInBounds_toArray,List.set_cons_zero,List.set_cons_succ,i64_w,i32_w]
       rfl
      refine pure_ (i:=1) (N:=some 20) (v:=?_) (a':=?_) #[true,true,false,false,false,false,false,false,false,false,false,false,false,false,false,false] rfl rfl (any_of HT_.out (by kernel_rfl)) (fun _ _ _ h=>h) (Or.inl ⟨by rfl,?_⟩) ?_ ?_
      rotate_left
      ·intro w'
       go_simp
       with_reducible rfl
      rotate_left
      ·simp only [Act.put,List.setIfInBounds_toArray,List.set_cons_zero,List.set_cons_succ,i64_w,i32_w]
       rfl
      refine pure_ (i:=2) (N:=some 21) (v:=?_) (a':=?_) #[true,true,true,false,false,false,false,false,false,false,false,false,false,false,false,false] rfl rfl (any_of HT_.out (by kernel_rfl)) (fun _ _ _ h=>h) (Or.inl ⟨by rfl,?_⟩) ?_ ?_
      rotate_left
      ·intro w'
       go_simp
       with_reducible rfl
      rotate_left
      ·simp only [Act.put,List.setIfInBounds_toArray,List.set_cons_zero,List.set_cons_succ,i64_w,i32_w]
       rfl
      refine pure_ (i:=3) (N:=some 22) (v:=?_) (a':=?_) #[true,true,true,true,false,false,false,false,false,false,false,false,false,false,false,false] rfl rfl (any_of HT_.out (by kernel_rfl)) (fun _ _ _ h=>h) (Or.inl ⟨by rfl,?_⟩) ?_ ?_
      rotate_left
      ·intro w'
       go_simp
       with_reducible rfl
      rotate_left
      ·simp only [Act.put,List.setIfInBounds_toArray,List.set_cons_zero,List.set_cons_succ,i64_w,i32_w]
       rfl
      refine pure_ (i:=4) (N:=some 23) (v:=?_) (a':=?_) #[true,true,true,true,true,false,false,false,false,false,false,false,false,false,false,false] rfl rfl (any_of HT_.out (by kernel_rfl)) (fun _ _ _ h=>h) (Or.inl ⟨by rfl,?_⟩) ?_ ?_
      rotate_left
      ·intro w'
       go_simp
       with_reducible rfl
      rotate_left
      ·simp only [Act.put,List.setIfInBounds_toArray,List.set_cons_zero,List.set_cons_succ,i64_w,i32_w]
       rfl
      refine one_ (i:=5) (N:=some 24) #[true,true,true,true,true,true,false,false,false,false,false,false,false,false,false,false] rfl rfl (one_of HT_.out (by kernel_rfl)) (by decide) (fun K hK=>?_)
      refine goes_ Tryz.func60 (by kernel_rfl) rfl #[.slice Ao20 t412.length co20] (by rfl) rfl rfl (by (try simp only [List.map_toArray,List.map_cons,List.map_nil]);first|done|rfl|(simp only [List.length_drop,List.length_take];rfl)) ?_
      with_reducible refine (slices_IsSorted_string_string.calls kj2 _ _ t412 true _ ?side1 ?side2 A13.out).mono ?_
      (case side1=>repeat (first|exact (Kd.R_reads' HO414.out).2.2|(with_reducible refine Kd.C_alloc ?_ _)|(with_reducible refine Kd.C_drewN ?_ _)|(with_reducible refine Kd.C_drew ?_)))
      (case side2=>exact (Kd.R_reads' HO414.out).2.1)
      rintro e w' ⟨rfl,⟨nd,rfl⟩⟩
      refine ⟨_,rfl,?_⟩
      refine hK.out _ _ ((bC BK406.out 0).trans rfl) (fun hHeld=>?_)
      clear hK K
      refine norm_ (a':=?_) ?_ ?_
      rotate_left
      ·show Act.put _ (some 24) _=_
       simp only [Act.put,List.setIfInBounds_toArray,List.set_cons_zero,List.set_cons_succ,i64_w,i32_w]
       rfl
      refine pure_ (i:=6) (N:=some 25) (v:=?_) (a':=?_) #[true,true,true,true,true,true,true,false,false,false,false,false,false,false,false,false] rfl rfl (any_of HT_.out (by kernel_rfl)) (fun _ _ _ h=>h) (Or.inl ⟨by rfl,?_⟩) ?_ ?_
      rotate_left
      ·intro w'
       go_simp
       with_reducible rfl
      rotate_left
      ·simp only [Act.put,List.setIfInBounds_toArray,List.set_cons_zero,List.set_cons_succ,i64_w,i32_w]
       rfl
      refine pure_ (i:=7) (N:=some 26) (v:=?_) (a':=?_) #[true,true,true,true,true,true,true,true,false,false,false,false,false,false,false,false] rfl rfl (any_of HT_.out (by kernel_rfl)) (fun _ _ _ h=>h) (Or.inl ⟨by rfl,?_⟩) ?_ ?_
      rotate_left
      ·intro w'
       go_simp
       with_reducible rfl
      rotate_left
      ·simp only [Act.put,List.setIfInBounds_toArray,List.set_cons_zero,List.set_cons_succ,i64_w,i32_w]
       rfl
      refine pure_ (i:=8) (N:=some 27) (v:=?_) (a':=?_) #[true,true,true,true,true,true,true,true,true,false,false,false,false,false,false,false] rfl rfl (any_of HT_.out (by kernel_rfl)) (fun _ _ _ h=>h) (Or.inl ⟨by rfl,?_⟩) ?_ ?_
      rotate_left
      ·intro w'
       go_simp
       with_reducible rfl
      rotate_left
      ·simp only [Act.put,List.setIfInBounds_toArray,List.set_cons_zero,List.set_cons_succ,i64_w,i32_w]
       rfl
      refine pure_ (i:=11) (N:=some 30) (v:=?_) (a':=?_) #[true,true,true,true,true,true,true,true,true,false,false,true,false,false,false,false] rfl rfl (any_of HT_.out (by kernel_rfl)) (fun _ _ _ h=>h) (Or.inl ⟨by rfl,?_⟩) ?_ ?_
      rotate_left
      ·intro w'
       go_simp
       with_reducible rfl
      rotate_left
      ·simp only [Act.put,List.setIfInBounds_toArray,List.set_cons_zero,List.set_cons_succ,i64_w,i32_w]
       rfl
      refine take_ (i:=12) (N:=some 31) (v:=?_) (a':=?_) #[true,true,true,true,true,true,true,true,true,false,false,true,true,false,false,false] rfl rfl (take_ofW HT_.out HW_.out (by kernel_rfl)) (fun _ _ _ h=>h) (Or.inl ⟨by rfl,?_⟩) hHeld ?_ ?_
      rotate_left
      ·intro w' s0
       go_simp
       with_reducible rfl
      rotate_left
      ·simp only [Act.put,List.setIfInBounds_toArray,List.set_cons_zero,List.set_cons_succ,i64_w,i32_w]
       rfl
      refine one_ (i:=9) (N:=some 28) #[true,true,true,true,true,true,true,true,true,true,false,true,true,false,false,false] rfl rfl (one_of HT_.out (by kernel_rfl)) (by decide) (fun K hK=>?_)
      refine goes_ Tryz.func62 (by kernel_rfl) rfl #[.slice Ao20 t412.length co20] (by rfl) rfl rfl (by (try simp only [List.map_toArray,List.map_cons,List.map_nil]);first|done|rfl|(simp only [List.length_drop,List.length_take];rfl)) ?_
      with_reducible refine (impl_trieOf.calls _ _ t412 t416 _ ?side1 ?side2 A15.out).mono ?_
      (case side1=>repeat (first|exact (Kd.R_reads' HO414.out).2.2|(with_reducible refine Kd.C_alloc ?_ _)|(with_reducible refine Kd.C_drewN ?_ _)|(with_reducible refine Kd.C_drew ?_)))
      (case side2=>exact (Kd.R_reads' HO414.out).2.1)
      rintro e w21 ⟨v417,rfl,ho0,hb⟩
      refine ⟨_,rfl,?_⟩
      have n0_:=Zz.mk (Kd.R_below (by (with_reducible repeat first|apply Kd.R_alloc|apply Kd.R_drewN|apply Kd.R_drew);exact HO414.out) hb)
      have n1_:=Zz.mk (Kd.R_lower ho0 (qZ (by repeat (first|(with_reducible first|exact HB.out|apply qA|apply qN|apply q1_|refine qS ?_ GE406.out)|exact HB.out))))
      have n2_:=Zz.mk (bB (g:=gb406) (o:=.cells #[.slice A0_0 l0_0.length c0_0] 31 (0,0)) (by (with_reducible repeat first|apply bN|apply bD|apply bA);exact BK406.out) hb)
      have n3_:=Zz.mk (qP (by repeat (first|(with_reducible first|exact HB.out|apply qA|apply qN|apply q1_|refine qS ?_ GE406.out)|exact HB.out)) hb)
      clear HO414
      clear BK406
      clear HB
      have HO414:=n0_
      have HO418:=n1_
      have BK406:=n2_
      have HB:=n3_
      clear n0_ n1_ n2_ n3_
      (try clear hb)
      (try clear hb2)
      (try clear hk)
      (try clear hi)
      (try clear ho0)
      obtain ⟨Ao22,co22,eo22⟩:=Kd.R_slice HO418.out
      (first|subst eo22|(injection eo22 with f1_ f2_ f3_;have f4_:=f1_.symm;have f5_:=f3_.symm;clear f1_ f2_ f3_;subst f4_;subst f5_))
      refine hK.out _ _ ((bC BK406.out 0).trans rfl) (fun hHeld=>?_)
      clear hK K
      refine norm_ (a':=?_) ?_ ?_
      rotate_left
      ·show Act.put _ (some 28) _=_
       simp only [Act.put,List.setIfInBounds_toArray,List.set_cons_zero,List.set_cons_succ,i64_w,i32_w]
       rfl
      refine pure_ (i:=10) (N:=some 29) (v:=?_) (a':=?_) #[true,true,true,true,true,true,true,true,true,true,true,true,true,false,false,false] rfl rfl (any_of HT_.out (by kernel_rfl)) (fun _ _ _ h=>h) (Or.inl ⟨by rfl,?_⟩) ?_ ?_
      rotate_left
      ·intro w'
       go_simp
       with_reducible rfl
      rotate_left
      ·simp only [Act.put,List.setIfInBounds_toArray,List.set_cons_zero,List.set_cons_succ,i64_w,i32_w]
       rfl
      refine one_ (i:=13) (N:=some 32) #[true,true,true,true,true,true,true,true,true,true,true,true,true,true,false,false] rfl rfl (one_of HT_.out (by kernel_rfl)) (by decide) (fun K hK=>?_)
      refine goes_ Tryz.func61 (by kernel_rfl) rfl #[.slice Ao22 t416.length co22,.slice A0_0 l0_0.length c0_0] (by rfl) rfl rfl (by (try simp only [List.map_toArray,List.map_cons,List.map_nil]);first|done|rfl|(simp only [List.length_drop,List.length_take];rfl)) ?_
      with_reducible refine (impl_Node.calls kj2 _ _ t416 _ _ l0_0 t419 _ ?side1 ?side2 ?side3 ?side4 A16.out).mono ?_
      (case side1=>repeat (first|exact (Kd.R_reads' HO418.out).2.2|(with_reducible refine Kd.C_alloc ?_ _)|(with_reducible refine Kd.C_drewN ?_ _)|(with_reducible refine Kd.C_drew ?_)))
      (case side2=>exact (Kd.R_reads' HO418.out).2.1)
      (case side3=>repeat (first|exact (Kd.C_below HR0_0.out HB.out)|(with_reducible refine Kd.C_alloc ?_ _)|(with_reducible refine Kd.C_drewN ?_ _)|(with_reducible refine Kd.C_drew ?_)))
      (case side4=>exact HC0_0.out)
      rintro e w' ⟨rfl,⟨nd,rfl⟩⟩
      refine ⟨_,rfl,?_⟩
      refine hK.out _ _ ((bC BK406.out 0).trans rfl) (fun hHeld=>?_)
      clear hK K
      refine norm_ (a':=?_) ?_ ?_
      rotate_left
      ·show Act.put _ (some 32) _=_
       simp only [Act.put,List.setIfInBounds_toArray,List.set_cons_zero,List.set_cons_succ,i64_w,i32_w]
       rfl
      refine pure_ (i:=14) (N:=some 33) (v:=?_) (a':=?_) #[true,true,true,true,true,true,true,true,true,true,true,true,true,true,true,false] rfl rfl (any_of HT_.out (by kernel_rfl)) (fun _ _ _ h=>h) (Or.inl ⟨by rfl,?_⟩) ?_ ?_
      rotate_left
      ·intro w'
       go_simp
       with_reducible rfl
      rotate_left
      ·simp only [Act.put,List.setIfInBounds_toArray,List.set_cons_zero,List.set_cons_succ,i64_w,i32_w]
       rfl
      refine pure_ (i:=15) (N:=some 2) (v:=?_) (a':=?_) #[true,true,true,true,true,true,true,true,true,true,true,true,true,true,true,true] rfl rfl (any_of HT_.out (by kernel_rfl)) (fun _ _ _ h=>h) (Or.inl ⟨by rfl,?_⟩) ?_ ?_
      rotate_left
      ·intro w'
       go_simp
       with_reducible rfl
      rotate_left
      ·simp only [Act.put,List.setIfInBounds_toArray,List.set_cons_zero,List.set_cons_succ,i64_w,i32_w]
       rfl
      refine done_ (done_of HT_.out (by kernel_rfl)) ?_
      try go_wp2
      go_ret
      exact ⟨by first|rfl|(simp [errW_none,errW_some] <;> rfl)|(simp [*,errW_none,errW_some] <;> rfl),by repeat (first|(with_reducible first|exact HB.out|apply qA|apply qN|apply q1_|refine qS ?_ GE406.out)|exact HB.out)⟩
     ·replace c14:=Bool.eq_false_iff.mpr c14
      subst c14
      have H1:(some false)=some r:=by rw [if_neg (show ¬ (false=true) by decide)] at H;exact H
      clear H
      have H:=H1
      clear H1
      obtain rfl:=Option.some.inj H
      have hcz23_0:wc.cell? ⟨gb406,0,none⟩=some (.slice A0_0 l0_0.length c0_0):=(bC BK406.out 0).trans rfl
      have hfz23_0:=bF BK406.out 0
      try go_wp2_with (first|((with_reducible refine gate_callee (f:=47) rfl ?_);refine goesL_ (some 18) rfl rfl Tryz.func47 (by kernel_rfl) rfl #[.agg #[.slice A0_0 l0_0.length c0_0]] rfl (by (try simp only [List.map_toArray,List.map_cons,List.map_nil]);first|done|rfl|(simp only [List.length_drop,List.length_take];rfl)) ?_;(with_reducible refine (impl_Trie_words.calls kj2 _ _ l0_0 t412 _ ?side1 ?side2 A11.out).mono ?_);(case side1=>repeat (first|exact (Kd.C_below HR0_0.out HB.out)|(with_reducible refine Kd.C_alloc ?_ _)|(with_reducible refine Kd.C_drewN ?_ _)|(with_reducible refine Kd.C_drew ?_)));(case side2=>exact HC0_0.out);rintro e w24 ⟨v413,rfl,ho0,hb⟩;refine ⟨_,rfl,?_⟩;have n0_:=Zz.mk (Kd.R_lower ho0 (qZ (by repeat (first|(with_reducible first|exact HB.out|apply qA|apply qN|apply q1_|refine qS ?_ GE406.out)|exact HB.out))));have n1_:=Zz.mk (bB (g:=gb406) (o:=.cells #[.slice A0_0 l0_0.length c0_0] 31 (0,0)) (by (with_reducible repeat first|apply bN|apply bD|apply bA);exact BK406.out) hb);have n2_:=Zz.mk (qP (by repeat (first|(with_reducible first|exact HB.out|apply qA|apply qN|apply q1_|refine qS ?_ GE406.out)|exact HB.out)) hb);clear BK406;clear HB;have HO414:=n0_;have BK406:=n1_;have HB:=n2_;clear n0_ n1_ n2_;(try clear hb);(try clear hb2);(try clear hk);(try clear hi);(try clear ho0)))
      have n0_:=Zz.mk (Kd.R_drew HO414.out)
      have n1_:=Zz.mk (bD BK406.out)
      have n2_:=Zz.mk (q1_ HB.out)
      clear HO414
      clear BK406
      clear HB
      have HO414:=n0_
      have BK406:=n1_
      have HB:=n2_
      clear n0_ n1_ n2_
      obtain ⟨Ao26,co26,eo26⟩:=Kd.R_slice HO414.out
      (first|subst eo26|(injection eo26 with f1_ f2_ f3_;have f4_:=f1_.symm;have f5_:=f3_.symm;clear f1_ f2_ f3_;subst f4_;subst f5_))
      refine start_ (n:=16) (S:=fun w'=>True) (ds:=[]) #[false,false,false,false,false,false,false,false,false,false,false,false,false,false,false,false] (by kernel_rfl) rfl rfl trivial (fun hHeld=>?_);refine with_tabW impl_isTrie.tab5 impl_isTrie.bits5 (fun HT_ HW_=>?_)
      generalize w24.drew=w25 at HO414 BK406 HB hHeld ⊢
      refine pure_ (i:=0) (N:=some 19) (v:=?_) (a':=?_) #[true,false,false,false,false,false,false,false,false,false,false,false,false,false,false,false] rfl rfl (any_of HT_.out (by kernel_rfl)) (fun _ _ _ h=>h) (Or.inl ⟨by rfl,?_⟩) ?_ ?_
      rotate_left
      ·intro w'
       go_simp
       with_reducible rfl
      rotate_left
      ·simp only [Act.put,List.setIfInBounds_toArray,List.set_cons_zero,List.set_cons_succ,i64_w,i32_w]
       rfl
      refine pure_ (i:=1) (N:=some 20) (v:=?_) (a':=?_) #[true,true,false,false,false,false,false,false,false,false,false,false,false,false,false,false] rfl rfl (any_of HT_.out (by kernel_rfl)) (fun _ _ _ h=>h) (Or.inl ⟨by rfl,?_⟩) ?_ ?_
      rotate_left
      ·intro w'
       go_simp
       with_reducible rfl
      rotate_left
      ·simp only [Act.put,List.setIfInBounds_toArray,List.set_cons_zero,List.set_cons_succ,i64_w,i32_w]
       rfl
      refine pure_ (i:=2) (N:=some 21) (v:=?_) (a':=?_) #[true,true,true,false,false,false,false,false,false,false,false,false,false,false,false,false] rfl rfl (any_of HT_.out (by kernel_rfl)) (fun _ _ _ h=>h) (Or.inl ⟨by rfl,?_⟩) ?_ ?_
      rotate_left
      ·intro w'
       go_simp
       with_reducible rfl
      rotate_left
      ·simp only [Act.put,List.setIfInBounds_toArray,List.set_cons_zero,List.set_cons_succ,i64_w,i32_w]
       rfl
      refine pure_ (i:=3) (N:=some 22) (v:=?_) (a':=?_) #[true,true,true,true,false,false,false,false,false,false,false,false,false,false,false,false] rfl rfl (any_of HT_.out (by kernel_rfl)) (fun _ _ _ h=>h) (Or.inl ⟨by rfl,?_⟩) ?_ ?_
      rotate_left
      ·intro w'
       go_simp
       with_reducible rfl
      rotate_left
      ·simp only [Act.put,List.setIfInBounds_toArray,List.set_cons_zero,List.set_cons_succ,i64_w,i32_w]
       rfl
      refine pure_ (i:=4) (N:=some 23) (v:=?_) (a':=?_) #[true,true,true,true,true,false,false,false,false,false,false,false,false,false,false,false] rfl rfl (any_of HT_.out (by kernel_rfl)) (fun _ _ _ h=>h) (Or.inl ⟨by rfl,?_⟩) ?_ ?_
      rotate_left
      ·intro w'
       go_simp
       with_reducible rfl
      rotate_left
      ·simp only [Act.put,List.setIfInBounds_toArray,List.set_cons_zero,List.set_cons_succ,i64_w,i32_w]
       rfl
      refine one_ (i:=5) (N:=some 24) #[true,true,true,true,true,true,false,false,false,false,false,false,false,false,false,false] rfl rfl (one_of HT_.out (by kernel_rfl)) (by decide) (fun K hK=>?_)
      refine goes_ Tryz.func60 (by kernel_rfl) rfl #[.slice Ao26 t412.length co26] (by rfl) rfl rfl (by (try simp only [List.map_toArray,List.map_cons,List.map_nil]);first|done|rfl|(simp only [List.length_drop,List.length_take];rfl)) ?_
      with_reducible refine (slices_IsSorted_string_string.calls kj2 _ _ t412 false _ ?side1 ?side2 A13.out).mono ?_
      (case side1=>repeat (first|exact (Kd.R_reads' HO414.out).2.2|(with_reducible refine Kd.C_alloc ?_ _)|(with_reducible refine Kd.C_drewN ?_ _)|(with_reducible refine Kd.C_drew ?_)))
      (case side2=>exact (Kd.R_reads' HO414.out).2.1)
      rintro e w' ⟨rfl,⟨nd,rfl⟩⟩
      refine ⟨_,rfl,?_⟩
      refine hK.out _ _ trivial (fun hHeld=>?_)
      clear hK K
      refine norm_ (a':=?_) ?_ ?_
      rotate_left
      ·show Act.put _ (some 24) _=_
       simp only [Act.put,List.setIfInBounds_toArray,List.set_cons_zero,List.set_cons_succ,i64_w,i32_w]
       rfl
      refine pure_ (i:=6) (N:=some 25) (v:=?_) (a':=?_) #[true,true,true,true,true,true,true,false,false,false,false,false,false,false,false,false] rfl rfl (any_of HT_.out (by kernel_rfl)) (fun _ _ _ h=>h) (Or.inl ⟨by rfl,?_⟩) ?_ ?_
      rotate_left
      ·intro w'
       go_simp
       with_reducible rfl
      rotate_left
      ·simp only [Act.put,List.setIfInBounds_toArray,List.set_cons_zero,List.set_cons_succ,i64_w,i32_w]
       rfl
      refine pure_ (i:=7) (N:=some 26) (v:=?_) (a':=?_) #[true,true,true,true,true,true,true,true,false,false,false,false,false,false,false,false] rfl rfl (any_of HT_.out (by kernel_rfl)) (fun _ _ _ h=>h) (Or.inl ⟨by rfl,?_⟩) ?_ ?_
      rotate_left
      ·intro w'
       go_simp
       with_reducible rfl
      rotate_left
      ·simp only [Act.put,List.setIfInBounds_toArray,List.set_cons_zero,List.set_cons_succ,i64_w,i32_w]
       rfl
      refine pure_ (i:=8) (N:=some 27) (v:=undef) (a':=?_) #[true,true,true,true,true,true,true,true,true,false,false,false,false,false,false,false] rfl rfl (any_of HT_.out (by kernel_rfl)) (fun _ _ _ h=>h) (Or.inr ⟨by rfl,rfl⟩) ?_ ?_
      rotate_left
      ·simp only [Act.put,List.setIfInBounds_toArray,List.set_cons_zero,List.set_cons_succ,i64_w,i32_w]
       rfl
      refine pure_ (i:=9) (N:=some 28) (v:=undef) (a':=?_) #[true,true,true,true,true,true,true,true,true,true,false,false,false,false,false,false] rfl rfl (any_of HT_.out (by kernel_rfl)) (fun _ _ _ h=>h) (Or.inr ⟨by rfl,rfl⟩) ?_ ?_
      rotate_left
      ·simp only [Act.put,List.setIfInBounds_toArray,List.set_cons_zero,List.set_cons_succ,i64_w,i32_w]
       rfl
      refine pure_ (i:=10) (N:=some 29) (v:=undef) (a':=?_) #[true,true,true,true,true,true,true,true,true,true,true,false,false,false,false,false] rfl rfl (any_of HT_.out (by kernel_rfl)) (fun _ _ _ h=>h) (Or.inr ⟨by rfl,rfl⟩) ?_ ?_
      rotate_left
      ·simp only [Act.put,List.setIfInBounds_toArray,List.set_cons_zero,List.set_cons_succ,i64_w,i32_w]
       rfl
      refine pure_ (i:=11) (N:=some 30) (v:=undef) (a':=?_) #[true,true,true,true,true,true,true,true,true,true,true,true,false,false,false,false] rfl rfl (any_of HT_.out (by kernel_rfl)) (fun _ _ _ h=>h) (Or.inr ⟨by rfl,rfl⟩) ?_ ?_
      rotate_left
      ·simp only [Act.put,List.setIfInBounds_toArray,List.set_cons_zero,List.set_cons_succ,i64_w,i32_w]
       rfl
      refine pure_ (i:=12) (N:=some 31) (v:=undef) (a':=?_) #[true,true,true,true,true,true,true,true,true,true,true,true,true,false,false,false] rfl rfl (any_of HT_.out (by kernel_rfl)) (fun _ _ _ h=>h) (Or.inr ⟨by rfl,rfl⟩) ?_ ?_
      rotate_left
      ·simp only [Act.put,List.setIfInBounds_toArray,List.set_cons_zero,List.set_cons_succ,i64_w,i32_w]
       rfl
      refine pure_ (i:=13) (N:=some 32) (v:=undef) (a':=?_) #[true,true,true,true,true,true,true,true,true,true,true,true,true,true,false,false] rfl rfl (any_of HT_.out (by kernel_rfl)) (fun _ _ _ h=>h) (Or.inr ⟨by rfl,rfl⟩) ?_ ?_
      rotate_left
      ·simp only [Act.put,List.setIfInBounds_toArray,List.set_cons_zero,List.set_cons_succ,i64_w,i32_w]
       rfl
      refine pure_ (i:=14) (N:=some 33) (v:=?_) (a':=?_) #[true,true,true,true,true,true,true,true,true,true,true,true,true,true,true,false] rfl rfl (any_of HT_.out (by kernel_rfl)) (fun _ _ _ h=>h) (Or.inl ⟨by rfl,?_⟩) ?_ ?_
      rotate_left
      ·intro w'
       go_simp
       with_reducible rfl
      rotate_left
      ·simp only [Act.put,List.setIfInBounds_toArray,List.set_cons_zero,List.set_cons_succ,i64_w,i32_w]
       rfl
      refine pure_ (i:=15) (N:=some 2) (v:=?_) (a':=?_) #[true,true,true,true,true,true,true,true,true,true,true,true,true,true,true,true] rfl rfl (any_of HT_.out (by kernel_rfl)) (fun _ _ _ h=>h) (Or.inl ⟨by rfl,?_⟩) ?_ ?_
      rotate_left
      ·intro w'
       go_simp
       with_reducible rfl
      rotate_left
      ·simp only [Act.put,List.setIfInBounds_toArray,List.set_cons_zero,List.set_cons_succ,i64_w,i32_w]
       rfl
      refine done_ (done_of HT_.out (by kernel_rfl)) ?_
      try go_wp2
      go_ret
      exact ⟨by first|rfl|(simp [errW_none,errW_some] <;> rfl)|(simp [*,errW_none,errW_some] <;> rfl),by repeat (first|(with_reducible first|exact HB.out|apply qA|apply qN|apply q1_|refine qS ?_ GE406.out)|exact HB.out)⟩
    ·rw [if_neg c12] at H
     have c12b0:decide ((t412.length:Int)≤40)=false:=decide_eq_false c12
     have c12b1:decide (t412.length≤40)=false:=decide_eq_false (by omega)
     clear c12
     obtain rfl:=Option.some.inj H
     have hcz27_0:wc.cell? ⟨gb406,0,none⟩=some (.slice A0_0 l0_0.length c0_0):=(bC BK406.out 0).trans rfl
     have hfz27_0:=bF BK406.out 0
     try go_wp2_with (first|((with_reducible refine gate_callee (f:=47) rfl ?_);refine goesL_ (some 18) rfl rfl Tryz.func47 (by kernel_rfl) rfl #[.agg #[.slice A0_0 l0_0.length c0_0]] rfl (by (try simp only [List.map_toArray,List.map_cons,List.map_nil]);first|done|rfl|(simp only [List.length_drop,List.length_take];rfl)) ?_;(with_reducible refine (impl_Trie_words.calls kj2 _ _ l0_0 t412 _ ?side1 ?side2 A11.out).mono ?_);(case side1=>repeat (first|exact (Kd.C_below HR0_0.out HB.out)|(with_reducible refine Kd.C_alloc ?_ _)|(with_reducible refine Kd.C_drewN ?_ _)|(with_reducible refine Kd.C_drew ?_)));(case side2=>exact HC0_0.out);rintro e w28 ⟨v413,rfl,ho0,hb⟩;refine ⟨_,rfl,?_⟩;have n0_:=Zz.mk (Kd.R_lower ho0 (qZ (by repeat (first|(with_reducible first|exact HB.out|apply qA|apply qN|apply q1_|refine qS ?_ GE406.out)|exact HB.out))));have n1_:=Zz.mk (bB (g:=gb406) (o:=.cells #[.slice A0_0 l0_0.length c0_0] 31 (0,0)) (by (with_reducible repeat first|apply bN|apply bD|apply bA);exact BK406.out) hb);have n2_:=Zz.mk (qP (by repeat (first|(with_reducible first|exact HB.out|apply qA|apply qN|apply q1_|refine qS ?_ GE406.out)|exact HB.out)) hb);clear BK406;clear HB;have HO414:=n0_;have BK406:=n1_;have HB:=n2_;clear n0_ n1_ n2_;(try clear hb);(try clear hb2);(try clear hk);(try clear hi);(try clear ho0)))
     have n0_:=Zz.mk (Kd.R_drew HO414.out)
     have n1_:=Zz.mk (bD BK406.out)
     have n2_:=Zz.mk (q1_ HB.out)
     clear HO414
     clear BK406
     clear HB
     have HO414:=n0_
     have BK406:=n1_
     have HB:=n2_
     clear n0_ n1_ n2_
     obtain ⟨Ao30,co30,eo30⟩:=Kd.R_slice HO414.out
     (first|subst eo30|(injection eo30 with f1_ f2_ f3_;have f4_:=f1_.symm;have f5_:=f3_.symm;clear f1_ f2_ f3_;subst f4_;subst f5_))
     refine start_ (n:=16) (S:=fun w'=>True) (ds:=[]) #[false,false,false,false,false,false,false,false,false,false,false,false,false,false,false,false] (by kernel_rfl) rfl rfl trivial (fun hHeld=>?_);refine with_tabW impl_isTrie.tab5 impl_isTrie.bits5 (fun HT_ HW_=>?_)
     generalize w28.drew=w29 at HO414 BK406 HB hHeld ⊢
     refine pure_ (i:=0) (N:=some 19) (v:=?_) (a':=?_) #[true,false,false,false,false,false,false,false,false,false,false,false,false,false,false,false] rfl rfl (any_of HT_.out (by kernel_rfl)) (fun _ _ _ h=>h) (Or.inl ⟨by rfl,?_⟩) ?_ ?_
     rotate_left
     ·intro w'
      go_simp
      with_reducible rfl
     rotate_left
     ·simp only [Act.put,List.setIfInBounds_toArray,List.set_cons_zero,List.set_cons_succ,i64_w,i32_w]
      rfl
     refine pure_ (i:=1) (N:=some 20) (v:=?_) (a':=?_) #[true,true,false,false,false,false,false,false,false,false,false,false,false,false,false,false] rfl rfl (any_of HT_.out (by kernel_rfl)) (fun _ _ _ h=>h) (Or.inl ⟨by rfl,?_⟩) ?_ ?_
     rotate_left
     ·intro w'
      go_simp
      with_reducible rfl
     rotate_left
     ·simp only [Act.put,List.setIfInBounds_toArray,List.set_cons_zero,List.set_cons_succ,i64_w,i32_w]
      rfl
     refine pure_ (i:=2) (N:=some 21) (v:=?_) (a':=?_) #[true,true,true,false,false,false,false,false,false,false,false,false,false,false,false,false] rfl rfl (any_of HT_.out (by kernel_rfl)) (fun _ _ _ h=>h) (Or.inl ⟨by rfl,?_⟩) ?_ ?_
     rotate_left
     ·intro w'
      go_simp
      with_reducible rfl
     rotate_left
     ·simp only [Act.put,List.setIfInBounds_toArray,List.set_cons_zero,List.set_cons_succ,i64_w,i32_w]
      rfl
     refine pure_ (i:=3) (N:=some 22) (v:=?_) (a':=?_) #[true,true,true,true,false,false,false,false,false,false,false,false,false,false,false,false] rfl rfl (any_of HT_.out (by kernel_rfl)) (fun _ _ _ h=>h) (Or.inl ⟨by rfl,?_⟩) ?_ ?_
     rotate_left
     ·intro w'
      go_simp
      with_reducible rfl
     rotate_left
     ·simp only [Act.put,List.setIfInBounds_toArray,List.set_cons_zero,List.set_cons_succ,i64_w,i32_w]
      rfl
     refine pure_ (i:=4) (N:=some 23) (v:=undef) (a':=?_) #[true,true,true,true,true,false,false,false,false,false,false,false,false,false,false,false] rfl rfl (any_of HT_.out (by kernel_rfl)) (fun _ _ _ h=>h) (Or.inr ⟨by rfl,rfl⟩) ?_ ?_
     rotate_left
     ·simp only [Act.put,List.setIfInBounds_toArray,List.set_cons_zero,List.set_cons_succ,i64_w,i32_w]
      rfl
     refine pure_ (i:=5) (N:=some 24) (v:=undef) (a':=?_) #[true,true,true,true,true,true,false,false,false,false,false,false,false,false,false,false] rfl rfl (any_of HT_.out (by kernel_rfl)) (fun _ _ _ h=>h) (Or.inr ⟨by rfl,rfl⟩) ?_ ?_
     rotate_left
     ·simp only [Act.put,List.setIfInBounds_toArray,List.set_cons_zero,List.set_cons_succ,i64_w,i32_w]
      rfl
     refine pure_ (i:=6) (N:=some 25) (v:=?_) (a':=?_) #[true,true,true,true,true,true,true,false,false,false,false,false,false,false,false,false] rfl rfl (any_of HT_.out (by kernel_rfl)) (fun _ _ _ h=>h) (Or.inl ⟨by rfl,?_⟩) ?_ ?_
     rotate_left
     ·intro w'
      go_simp
      with_reducible rfl
     rotate_left
     ·simp only [Act.put,List.setIfInBounds_toArray,List.set_cons_zero,List.set_cons_succ,i64_w,i32_w]
      rfl
     refine pure_ (i:=7) (N:=some 26) (v:=?_) (a':=?_) #[true,true,true,true,true,true,true,true,false,false,false,false,false,false,false,false] rfl rfl (any_of HT_.out (by kernel_rfl)) (fun _ _ _ h=>h) (Or.inl ⟨by rfl,?_⟩) ?_ ?_
     rotate_left
     ·intro w'
      go_simp
      with_reducible rfl
     rotate_left
     ·simp only [Act.put,List.setIfInBounds_toArray,List.set_cons_zero,List.set_cons_succ,i64_w,i32_w]
      rfl
     refine pure_ (i:=8) (N:=some 27) (v:=undef) (a':=?_) #[true,true,true,true,true,true,true,true,true,false,false,false,false,false,false,false] rfl rfl (any_of HT_.out (by kernel_rfl)) (fun _ _ _ h=>h) (Or.inr ⟨by rfl,rfl⟩) ?_ ?_
     rotate_left
     ·simp only [Act.put,List.setIfInBounds_toArray,List.set_cons_zero,List.set_cons_succ,i64_w,i32_w]
      rfl
     refine pure_ (i:=9) (N:=some 28) (v:=undef) (a':=?_) #[true,true,true,true,true,true,true,true,true,true,false,false,false,false,false,false] rfl rfl (any_of HT_.out (by kernel_rfl)) (fun _ _ _ h=>h) (Or.inr ⟨by rfl,rfl⟩) ?_ ?_
     rotate_left
     ·simp only [Act.put,List.setIfInBounds_toArray,List.set_cons_zero,List.set_cons_succ,i64_w,i32_w]
      rfl
     refine pure_ (i:=10) (N:=some 29) (v:=undef) (a':=?_) #[true,true,true,true,true,true,true,true,true,true,true,false,false,false,false,false] rfl rfl (any_of HT_.out (by kernel_rfl)) (fun _ _ _ h=>h) (Or.inr ⟨by rfl,rfl⟩) ?_ ?_
     rotate_left
     ·simp only [Act.put,List.setIfInBounds_toArray,List.set_cons_zero,List.set_cons_succ,i64_w,i32_w]
      rfl
     refine pure_ (i:=11) (N:=some 30) (v:=undef) (a':=?_) #[true,true,true,true,true,true,true,true,true,true,true,true,false,false,false,false] rfl rfl (any_of HT_.out (by kernel_rfl)) (fun _ _ _ h=>h) (Or.inr ⟨by rfl,rfl⟩) ?_ ?_
     rotate_left
     ·simp only [Act.put,List.setIfInBounds_toArray,List.set_cons_zero,List.set_cons_succ,i64_w,i32_w]
      rfl
     refine pure_ (i:=12) (N:=some 31) (v:=undef) (a':=?_) #[true,true,true,true,true,true,true,true,true,true,true,true,true,false,false,false] rfl rfl (any_of HT_.out (by kernel_rfl)) (fun _ _ _ h=>h) (Or.inr ⟨by rfl,rfl⟩) ?_ ?_
     rotate_left
     ·simp only [Act.put,List.setIfInBounds_toArray,List.set_cons_zero,List.set_cons_succ,i64_w,i32_w]
      rfl
     refine pure_ (i:=13) (N:=some 32) (v:=undef) (a':=?_) #[true,true,true,true,true,true,true,true,true,true,true,true,true,true,false,false] rfl rfl (any_of HT_.out (by kernel_rfl)) (fun _ _ _ h=>h) (Or.inr ⟨by rfl,rfl⟩) ?_ ?_
     rotate_left
     ·simp only [Act.put,List.setIfInBounds_toArray,List.set_cons_zero,List.set_cons_succ,i64_w,i32_w]
      rfl
     refine pure_ (i:=14) (N:=some 33) (v:=?_) (a':=?_) #[true,true,true,true,true,true,true,true,true,true,true,true,true,true,true,false] rfl rfl (any_of HT_.out (by kernel_rfl)) (fun _ _ _ h=>h) (Or.inl ⟨by rfl,?_⟩) ?_ ?_
     rotate_left
     ·intro w'
      go_simp
      with_reducible rfl
     rotate_left
     ·simp only [Act.put,List.setIfInBounds_toArray,List.set_cons_zero,List.set_cons_succ,i64_w,i32_w]
      rfl
     refine pure_ (i:=15) (N:=some 2) (v:=?_) (a':=?_) #[true,true,true,true,true,true,true,true,true,true,true,true,true,true,true,true] rfl rfl (any_of HT_.out (by kernel_rfl)) (fun _ _ _ h=>h) (Or.inl ⟨by rfl,?_⟩) ?_ ?_
     rotate_left
     ·intro w'
      go_simp
      with_reducible rfl
     rotate_left
     ·simp only [Act.put,List.setIfInBounds_toArray,List.set_cons_zero,List.set_cons_succ,i64_w,i32_w]
      rfl
     refine done_ (done_of HT_.out (by kernel_rfl)) ?_
     try go_wp2
     go_ret
     exact ⟨by first|rfl|(simp [errW_none,errW_some] <;> rfl)|(simp [*,errW_none,errW_some] <;> rfl),by repeat (first|(with_reducible first|exact HB.out|apply qA|apply qN|apply q1_|refine qS ?_ GE406.out)|exact HB.out)⟩
def impl_arePassage.f (k:Nat) (l0_0:List (S70)) (a1:ByteArray):Option (Bool):=if (a1.size:Int)≤60 then ((impl_areLetters.f a1).bind fun t421=>(if t421=true then ((impl_isTrie.f k l0_0).bind fun t422=>(some t422)) else (some false))) else (some false)
set_option maxHeartbeats 8000000 in
set_option maxRecDepth 100000 in
theorem impl_arePassage.calls (k:Nat) (A0_0:Option Addr) (c0_0:Nat) (l0_0:List (S70)) (a1:ByteArray) (r:Bool) (w:World) (hr0_0:Kd.C k70 w A0_0 l0_0.length l0_0) (hc0_0:l0_0.length≤c0_0) (h:impl_arePassage.f k l0_0 a1=some r) :
  Calls Tryz.prog 30 #[.agg #[.slice A0_0 l0_0.length c0_0],.string a1] w fun e w'=>e=.returned (.bool r)∧Below w.heap.size w w':=by
 have hu31:=Tryz.underlying31
 have HR0_0:=Zz.mk hr0_0
 have HC0_0:=Zz.mk hc0_0
 clear hr0_0 hc0_0
 have HB:=Zz.mk (Below.refl w.heap.size w)
 have H:(if (a1.size:Int)≤60 then ((impl_areLetters.f a1).bind fun t421=>(if t421=true then ((impl_isTrie.f k l0_0).bind fun t422=>(some t422)) else (some false))) else (some false))=some r:=h
 clear h
 by_cases c3:(a1.size:Int)≤60
 ·rw [if_pos c3] at H
  have c3b0:decide ((a1.size:Int)≤60)=true:=decide_eq_true c3
  have c3b1:decide (a1.size≤60)=true:=decide_eq_true (by omega)
  clear c3
  replace H:=Option.bind_eq_some_iff.mp H
  obtain ⟨t421,A40,H⟩:=H
  replace H:(if t421=true then ((impl_isTrie.f k l0_0).bind fun t422=>(some t422)) else (some false))=some r:=H
  have A4:=Zz.mk A40
  clear A40
  by_cases c5:t421=true
  ·subst c5
   have H1:((impl_isTrie.f k l0_0).bind fun t422=>(some t422))=some r:=by rw [if_pos rfl] at H;exact H
   clear H
   have H:=H1
   clear H1
   replace H:=Option.bind_eq_some_iff.mp H
   obtain ⟨t422,A60,H⟩:=H
   replace H:(some t422)=some r:=H
   have A6:=Zz.mk A60
   clear A60
   obtain rfl:=Option.some.inj H
   go_enter Tryz.func30,Tryz.ntmps30
   go_wp2_with (first|((with_reducible refine gate_dst (N:=2) rfl ?_);refine box_event ?hg (N:=2) ?hd (cs:=#[.slice A0_0 l0_0.length c0_0]) (t:=31) ?hr ?_;(case hd=>rfl);(case hg=>rfl);(case hr=>first|(go_simp;done)|(go_simp;rfl));intro gb420 hg w7 hbox hb;have n0_:=Zz.mk (qP (by repeat (first|(with_reducible first|exact HB.out|apply qA|apply qN|apply q1_)|exact HB.out)) hb);have n1_:=Zz.mk (hbox);have n2_:=Zz.mk ((by rw [hg];exact (qZ (by repeat (first|(with_reducible first|exact HB.out|apply qA|apply qN|apply q1_)|exact HB.out))):w.heap.size≤gb420));have n3_:=Zz.mk ((by rw [hg];exact (qZ (by repeat (first|(with_reducible first|exact HB.out|apply qA|apply qN|apply q1_)|exact HB.out))):w.heap.size≤gb420));clear HB;have HB:=n0_;have BK420:=n1_;have GW420:=n2_;have GE420:=n3_;clear n0_ n1_ n2_ n3_;clear hb hbox hg)|(go_at_call 45;(with_reducible refine (impl_areLetters.calls a1 true _ A4.out).mono ?_);rintro e w8 ⟨rfl,hb⟩;have n0_:=Zz.mk (bB (g:=gb420) (o:=.cells #[.slice A0_0 l0_0.length c0_0] 31 (0,0)) (by (with_reducible repeat first|apply bN|apply bD|apply bA);exact BK420.out) hb);have n1_:=Zz.mk (qP (by repeat (first|(with_reducible first|exact HB.out|apply qA|apply qN|apply q1_|refine qS ?_ GE420.out)|exact HB.out)) hb);clear BK420;clear HB;have BK420:=n0_;have HB:=n1_;clear n0_ n1_;(try clear hb);(try clear hb2);(try clear hk);(try clear hi);have hcz9_0:w8.cell? ⟨gb420,0,none⟩=some (.slice A0_0 l0_0.length c0_0):=(bC BK420.out 0).trans rfl;have hfz9_0:=bF BK420.out 0)|(go_at_call 46;(with_reducible refine (impl_isTrie.calls k _ _ l0_0 t422 _ ?side1 ?side2 A6.out).mono ?_);(case side1=>repeat (first|exact (Kd.C_below HR0_0.out HB.out)|(with_reducible refine Kd.C_alloc ?_ _)|(with_reducible refine Kd.C_drewN ?_ _)|(with_reducible refine Kd.C_drew ?_)));(case side2=>exact HC0_0.out);rintro e w10 ⟨rfl,hb⟩;have n0_:=Zz.mk (bB (g:=gb420) (o:=.cells #[.slice A0_0 l0_0.length c0_0] 31 (0,0)) (by (with_reducible repeat first|apply bN|apply bD|apply bA);exact BK420.out) hb);have n1_:=Zz.mk (qP (by repeat (first|(with_reducible first|exact HB.out|apply qA|apply qN|apply q1_|refine qS ?_ GE420.out)|exact HB.out)) hb);clear BK420;clear HB;have BK420:=n0_;have HB:=n1_;clear n0_ n1_;(try clear hb);(try clear hb2);(try clear hk);(try clear hi)))
   go_ret
   exact ⟨by first|rfl|(simp [errW_none,errW_some] <;> rfl)|(simp [*,errW_none,errW_some] <;> rfl),by repeat (first|(with_reducible first|exact HB.out|apply qA|apply qN|apply q1_|refine qS ?_ GE420.out)|exact HB.out)⟩
  ·replace c5:=Bool.eq_false_iff.mpr c5
   subst c5
   have H1:(some false)=some r:=by rw [if_neg (show ¬ (false=true) by decide)] at H;exact H
   clear H
   have H:=H1
   clear H1
   obtain rfl:=Option.some.inj H
   go_enter Tryz.func30,Tryz.ntmps30
   go_wp2_with (first|((with_reducible refine gate_dst (N:=2) rfl ?_);refine box_event ?hg (N:=2) ?hd (cs:=#[.slice A0_0 l0_0.length c0_0]) (t:=31) ?hr ?_;(case hd=>rfl);(case hg=>rfl);(case hr=>first|(go_simp;done)|(go_simp;rfl));intro gb420 hg w11 hbox hb;have n0_:=Zz.mk (qP (by repeat (first|(with_reducible first|exact HB.out|apply qA|apply qN|apply q1_)|exact HB.out)) hb);have n1_:=Zz.mk (hbox);have n2_:=Zz.mk ((by rw [hg];exact (qZ (by repeat (first|(with_reducible first|exact HB.out|apply qA|apply qN|apply q1_)|exact HB.out))):w.heap.size≤gb420));have n3_:=Zz.mk ((by rw [hg];exact (qZ (by repeat (first|(with_reducible first|exact HB.out|apply qA|apply qN|apply q1_)|exact HB.out))):w.heap.size≤gb420));clear HB;have HB:=n0_;have BK420:=n1_;have GW420:=n2_;have GE420:=n3_;clear n0_ n1_ n2_ n3_;clear hb hbox hg)|(go_at_call 45;(with_reducible refine (impl_areLetters.calls a1 false _ A4.out).mono ?_);rintro e w12 ⟨rfl,hb⟩;have n0_:=Zz.mk (bB (g:=gb420) (o:=.cells #[.slice A0_0 l0_0.length c0_0] 31 (0,0)) (by (with_reducible repeat first|apply bN|apply bD|apply bA);exact BK420.out) hb);have n1_:=Zz.mk (qP (by repeat (first|(with_reducible first|exact HB.out|apply qA|apply qN|apply q1_|refine qS ?_ GE420.out)|exact HB.out)) hb);clear BK420;clear HB;have BK420:=n0_;have HB:=n1_;clear n0_ n1_;(try clear hb);(try clear hb2);(try clear hk);(try clear hi)))
   go_ret
   exact ⟨by first|rfl|(simp [errW_none,errW_some] <;> rfl)|(simp [*,errW_none,errW_some] <;> rfl),by repeat (first|(with_reducible first|exact HB.out|apply qA|apply qN|apply q1_|refine qS ?_ GE420.out)|exact HB.out)⟩
 ·rw [if_neg c3] at H
  have c3b0:decide ((a1.size:Int)≤60)=false:=decide_eq_false c3
  have c3b1:decide (a1.size≤60)=false:=decide_eq_false (by omega)
  clear c3
  obtain rfl:=Option.some.inj H
  go_enter Tryz.func30,Tryz.ntmps30
  go_wp2_with (first|((with_reducible refine gate_dst (N:=2) rfl ?_);refine box_event ?hg (N:=2) ?hd (cs:=#[.slice A0_0 l0_0.length c0_0]) (t:=31) ?hr ?_;(case hd=>rfl);(case hg=>rfl);(case hr=>first|(go_simp;done)|(go_simp;rfl));intro gb420 hg w13 hbox hb;have n0_:=Zz.mk (qP (by repeat (first|(with_reducible first|exact HB.out|apply qA|apply qN|apply q1_)|exact HB.out)) hb);have n1_:=Zz.mk (hbox);have n2_:=Zz.mk ((by rw [hg];exact (qZ (by repeat (first|(with_reducible first|exact HB.out|apply qA|apply qN|apply q1_)|exact HB.out))):w.heap.size≤gb420));have n3_:=Zz.mk ((by rw [hg];exact (qZ (by repeat (first|(with_reducible first|exact HB.out|apply qA|apply qN|apply q1_)|exact HB.out))):w.heap.size≤gb420));clear HB;have HB:=n0_;have BK420:=n1_;have GW420:=n2_;have GE420:=n3_;clear n0_ n1_ n2_ n3_;clear hb hbox hg))
  go_ret
  exact ⟨by first|rfl|(simp [errW_none,errW_some] <;> rfl)|(simp [*,errW_none,errW_some] <;> rfl),by repeat (first|(with_reducible first|exact HB.out|apply qA|apply qN|apply q1_|refine qS ?_ GE420.out)|exact HB.out)⟩
end Go.Proofs.YtadpmgdmiaoniaaGreatDoor.Q
namespace Go.Proofs.YtadpmgdmiaoniaaGreatDoor.Q
open Go.RowKit Go.Proofs.YtadpmgdmiaoniaaGreatDoorW.PrintWords Go.Proofs.YtadpmgdmiaoniaaGreatDoorW.PrintLast
def letterW (n:Int):ByteArray:=strOfNums [(wrap64 (97+n)) % 256]
def prefsW:List ByteArray→List IN→Option (List ByteArray)
  | ps,[]=>some ps
  | ps,n :: rest=>if 0≤n.f1∧n.f1<ps.length∧0≤n.f0∧n.f0≤25 then prefsW (ps ++ [rdOf ByteArray.empty ps n.f1 ++ letterW n.f0]) rest else none
def wordsW:List IN→List ByteArray→List ByteArray
  | n :: l,p :: ps=>if n.f2=true then p :: wordsW l ps else wordsW l ps
  | _,_=>[]
def resP:Option (List ByteArray)→List ByteArray × Bool
  | some r=>(r,true)
  | none=>([],false)
theorem in_eq (a b c:Int):impl_in.f a b c=some (decide (b≤a∧a≤c)):=by
  unfold impl_in.f
  by_cases h:b≤a
  · rw [if_pos h];congr 1;exact decide_eq_decide.2 (by omega)
  · rw [if_neg (by omega)];congr 1;exact (decide_eq_false (by omega)).symm
theorem letterW_size (n:Int):(letterW n).size=1:=by
  simp [letterW,strOfNums,ByteArray.size]
theorem size_app (a b:ByteArray):(a ++ b).size=a.size+b.size:=by simp
theorem prefixes_l0 (y:List IN) (hy:y.length≤1000):∀ (n i:Nat) (ps:List ByteArray),i+n=y.length→ps.length=i+1→(∀ p ∈ ps,p.size≤ps.length) →
    Ev (fun k=>impl_Trie_prefixes.l0 k ps y (y.length:Int) (i:Int)) (resP (prefsW ps (y.drop i))):=by
  intro n
  induction n with
  | zero =>
    intro i ps h hp hs
    refine Ev.succ ?_
    simp only [impl_Trie_prefixes.l0]
    rw [List.drop_of_length_le (by omega)]
    exact Ev.neg (by omega) (Ev.pure _)
  | succ n ih =>
    intro i ps h hp hs
    refine Ev.succ ?_
    simp only [impl_Trie_prefixes.l0,in_eq,impl_letter.f,Option.bind_some]
    have hi:i<y.length:=by omega
    rw [List.drop_eq_getElem_cons hi]
    simp only [rd_nat' y i hi,prefsW]
    refine Ev.pos (by omega) (Ev.pos (by omega) (Ev.pos (by omega) ?_))
    by_cases h1:0≤y[i].f1∧y[i].f1≤(i:Int)
    · refine Ev.pos (by simpa using h1) ?_
      by_cases h2:0≤y[i].f0∧y[i].f0≤25
      · refine Ev.pos (by simpa using h2) (Ev.pos h1.1 (Ev.pos (by omega) ?_))
        rw [if_pos (by omega)]
        have hmem:rdOf ByteArray.empty ps y[i].f1 ∈ ps:=at_mem h1.1 (by omega)
        have hsz:=hs _ hmem
        have hls:=letterW_size y[i].f0
        have hls':(strOfNums [(wrap64 (97+y[i].f0)) % 256]).size=1:=hls
        refine Ev.pos (by rw [hls'];omega) (Ev.pos (by omega) ?_)
        rw [wnext i (by omega)]
        refine ih (i+1) _ (by omega) (by simp;omega) (fun p hp2=>?_)
        rw [List.length_append,List.length_singleton]
        rcases List.mem_append.1 hp2 with h3|h3
        · have:=hs p h3;omega
        · rw [List.mem_singleton.1 h3,size_app]
          have:(letterW y[i].f0).size=1:=hls
          omega
      · rw [if_neg (by omega)]
        exact Ev.neg (by simpa using h2) (Ev.pure _)
    · rw [if_neg (by omega)]
      exact Ev.neg (by simpa using h1) (Ev.pure _)
def prefixesW (l:List IN):Option (List ByteArray):=if 1≤l.length∧l.length≤481 then prefsW [ByteArray.empty] (l.drop 1) else none
theorem prefixes_ev (l:List IN):Ev (fun k=>impl_Trie_prefixes.f k l) (resP (prefixesW l)):=by
  unfold impl_Trie_prefixes.f prefixesW
  simp only [in_eq,Option.bind_some]
  by_cases h:1≤l.length∧l.length≤481
  · rw [if_pos h]
    refine Ev.pos (by simp;omega) (Ev.pos (by omega) ?_)
    have:=prefixes_l0 (l.drop 1) (by simp;omega) (l.drop 1).length 0 [ByteArray.empty] (by omega) rfl (fun p hp=>by rw [List.mem_singleton.1 hp];exact Nat.zero_le _)
    rw [List.drop_zero] at this
    exact this
  · rw [if_neg h]
    exact Ev.neg (by simp;omega) (Ev.pure _)
theorem prefsW_length:∀ {l:List IN} {ps r:List ByteArray},prefsW ps l=some r→r.length=ps.length+l.length
  | [],ps,r,h=>by
    simp only [prefsW] at h
    injection h with h
    subst h;rfl
  | n :: l,ps,r,h=>by
    simp only [prefsW] at h
    split at h
    · have:=prefsW_length h
      simp at this ⊢
      omega
    · cases h
theorem prefixesW_length {l:List IN} {r:List ByteArray} (h:prefixesW l=some r):r.length=l.length∧l.length≤481∧1≤l.length:=by
  unfold prefixesW at h
  split at h
  · rename_i hl
    have:=prefsW_length h
    simp at this
    omega
  · cases h
theorem words_l0 (ps:List ByteArray) (l:List IN) (hl:l.length≤1000) (hp:ps.length=l.length):∀ (n i:Nat) (acc:List ByteArray),i+n=l.length→acc.length≤i →
    Ev (fun k=>impl_Trie_words.l0 k ps acc l (l.length:Int) (i:Int)) (acc ++ wordsW (l.drop i) (ps.drop i)):=by
  intro n
  induction n with
  | zero =>
    intro i acc h ha
    refine Ev.succ ?_
    simp only [impl_Trie_words.l0]
    rw [List.drop_of_length_le (by omega),List.drop_of_length_le (by omega)]
    simp only [wordsW,List.append_nil]
    exact Ev.neg (by omega) (Ev.pure _)
  | succ n ih =>
    intro i acc h ha
    refine Ev.succ ?_
    simp only [impl_Trie_words.l0]
    have hi:i<l.length:=by omega
    have hi2:i<ps.length:=by omega
    rw [List.drop_eq_getElem_cons hi,List.drop_eq_getElem_cons hi2]
    simp only [rd_nat' l i hi,rd_nat ps hi2,wordsW]
    refine Ev.pos (by omega) (Ev.pos (by omega) (Ev.pos (by omega) ?_))
    rw [wnext i (by omega)]
    by_cases e:l[i].f2=true
    · refine Ev.pos e (Ev.pos (by omega) (Ev.pos (by omega) ?_))
      have:=ih (i+1) (acc ++ [ps[i]]) (by omega) (by simp;omega)
      rw [if_pos e]
      simpa using this
    · refine Ev.neg e ?_
      rw [if_neg e]
      exact ih (i+1) acc (by omega) (by omega)
theorem words_ev (l:List IN) (ps:List ByteArray) (h:prefixesW l=some ps):Ev (fun k=>impl_Trie_words.f k l) (wordsW l ps):=by
  unfold impl_Trie_words.f
  have hl:=prefixesW_length h
  refine Ev.bind (prefixes_ev l) ?_
  rw [h]
  have:=words_l0 ps l (by omega) hl.1 l.length 0 [] (by omega) (by simp)
  simpa [resP] using this
theorem node_l0 (a b:List IN) (hab:a.length=b.length) (hl:a.length≤1048576):∀ (n i:Nat),i+n=a.length→Ev (fun k=>impl_Node.l0 k a b (a.length:Int) (i:Int)) (decide (a.drop i=b.drop i)):=by
  intro n
  induction n with
  | zero =>
    intro i h
    refine Ev.succ ?_
    simp only [impl_Node.l0]
    refine Ev.neg (by omega) ?_
    rw [List.drop_of_length_le (by omega),List.drop_of_length_le (by omega)]
    exact Ev.pure _
  | succ n ih =>
    intro i h
    refine Ev.succ ?_
    simp only [impl_Node.l0]
    have hi:i<a.length:=by omega
    have hi2:i<b.length:=by omega
    refine Ev.pos (by omega) (Ev.pos (by omega) (Ev.pos (by omega) (Ev.pos (by omega) ?_)))
    simp only [rd_nat' a i hi,rd_nat' b i hi2]
    have hd:(a.drop i=b.drop i) ↔ (a[i]=b[i]∧a.drop (i+1)=b.drop (i+1)):=by
      rw [List.drop_eq_getElem_cons hi,List.drop_eq_getElem_cons hi2]
      exact List.cons_eq_cons
    have hne:∀ x y:IN,(!(x.f0 == y.f0) || (!(x.f1 == y.f1) || !(x.f2 == y.f2)))=!decide (x=y):=fun x y=>by
      obtain ⟨x0,x1,x2⟩:=x
      obtain ⟨y0,y1,y2⟩:=y
      by_cases h0:x0=y0 <;> by_cases h1:x1=y1 <;> by_cases h2:x2=y2 <;> simp [h0,h1,h2]
    rw [decide_eq_decide.2 hd,hne]
    by_cases e:a[i]=b[i]
    · refine Ev.neg (by simp [e]) ?_
      rw [wnext i (by omega)]
      have hq:=ih (i+1) (by omega)
      have e2:decide (a[i]=b[i]∧a.drop (i+1)=b.drop (i+1))=decide (a.drop (i+1)=b.drop (i+1)):=decide_eq_decide.2 (and_iff_right e)
      rw [e2]
      exact hq
    · refine Ev.pos (by simp [e]) ?_
      have e2:decide (a[i]=b[i]∧a.drop (i+1)=b.drop (i+1))=false:=decide_eq_false (fun h=>e h.1)
      rw [e2]
      exact Ev.pure _
theorem node_ev (a b:List IN) (hl:a.length≤1048576):Ev (fun k=>impl_Node.f k a b) (decide (a=b)):=by
  unfold impl_Node.f
  by_cases hab:a.length=b.length
  · refine Ev.pos (by omega) ?_
    simpa using node_l0 a b hab hl a.length 0 (by omega)
  · have e:a ≠ b:=fun h=>hab (congrArg List.length h)
    rw [decide_eq_false e]
    exact Ev.neg (by omega) (Ev.pure _)
theorem sorted_l0 (l:List ByteArray) (hl:l.length≤1000000):∀ (i:Nat),i<l.length→Ev (fun k=>slices_IsSorted_string_string.l0 k l (i:Int)) (decide (∀ j,j<i→atW l (j:Int)≤atW l ((j+1:Nat):Int))):=by
  intro i
  induction i with
  | zero =>
    intro h
    refine Ev.succ ?_
    simp only [slices_IsSorted_string_string.l0]
    rw [decide_eq_true (fun j hj=>absurd hj (Nat.not_lt_zero _))]
    exact Ev.neg (by omega) (Ev.pure _)
  | succ i ih =>
    intro h
    refine Ev.succ ?_
    have e1:wrap64 (((i+1:Nat):Int) - 1)=(i:Int):=by unfold wrap64;omega
    simp only [slices_IsSorted_string_string.l0,less_pure,Option.bind_some,e1]
    refine Ev.pos (by omega) (Ev.pos (by omega) (Ev.pos (by omega) (Ev.pos (by omega) (Ev.pos (by omega) ?_))))
    by_cases hlt:atW l ((i+1:Nat):Int)<atW l (i:Int)
    · have e2:decide (∀ j,j<i+1→atW l (j:Int)≤atW l ((j+1:Nat):Int))=false:=decide_eq_false (fun hf=>absurd hlt (List.not_lt.2 (hf i (by omega))))
      rw [e2]
      exact Ev.pos (decide_eq_true hlt) (Ev.pure _)
    · refine Ev.neg (fun h2=>hlt (of_decide_eq_true h2)) ?_
      have hq:=ih (by omega)
      have e2:decide (∀ j,j<i+1→atW l (j:Int)≤atW l ((j+1:Nat):Int))=decide (∀ j,j<i→atW l (j:Int)≤atW l ((j+1:Nat):Int)):=decide_eq_decide.2 ⟨fun hf j hj=>hf j (by omega),fun hf j hj=>by
        by_cases ej:j=i
        · subst ej;exact List.not_lt.1 hlt
        · exact hf j (by omega)⟩
      rw [e2]
      exact hq
theorem adj_SW (l:List ByteArray):(∀ j,j<l.length - 1→atW l (j:Int)≤atW l ((j+1:Nat):Int)) ↔ SW l:=by
  constructor
  · intro h
    unfold SW
    rw [List.pairwise_iff_getElem]
    have key:∀ d i,i+d<l.length→atW l (i:Int)≤atW l ((i+d:Nat):Int):=by
      intro d
      induction d with
      | zero=>intro i _;exact List.le_refl _
      | succ d ih =>
        intro i hi
        exact List.le_trans (ih i (by omega)) (h (i+d) (by omega))
    intro i j hi hj hij
    have:=key (j - i) i (by omega)
    rw [show i+(j - i)=j by omega] at this
    simpa [atW,rdOf,hi,hj] using this
  · intro h j hj
    exact h.at (by omega) (by omega) (by omega)
instance (l:List ByteArray):Decidable (SW l):=inferInstanceAs (Decidable (l.Pairwise fun a b=>lw a≤lw b))
theorem sorted_ev (l:List ByteArray) (hl:l.length≤1000000):Ev (fun k=>slices_IsSorted_string_string.f k l) (decide (SW l)):=by
  unfold slices_IsSorted_string_string.f
  by_cases h0:l.length=0
  · obtain rfl:=List.eq_nil_of_length_eq_zero h0
    refine Ev.succ ?_
    simp only [slices_IsSorted_string_string.l0]
    rw [decide_eq_true (show SW [] from List.Pairwise.nil)]
    exact Ev.neg (by simp [wrap64]) (Ev.pure _)
  · have e:wrap64 ((l.length:Int) - 1)=((l.length - 1:Nat):Int):=by unfold wrap64;omega
    rw [e,← decide_eq_decide.2 (adj_SW l)]
    exact sorted_l0 l hl (l.length - 1) (by omega)
def isTrieW (l:List IN):Bool :=
  match prefixesW l with
  | none=>false
  | some ps=>if ps.any longW then false else
    decide ((wordsW l ps).length≤40) && (decide (SW (wordsW l ps)) && decide (trieW (wordsW l ps)=l))
theorem wordsW_mem:∀ {l:List IN} {ps:List ByteArray} {x:ByteArray},x ∈ wordsW l ps→x ∈ ps
  | [],ps,x,h=>by simp [wordsW] at h
  | n :: l,[],x,h=>by simp [wordsW] at h
  | n :: l,p :: ps,x,h=>by
    simp only [wordsW] at h
    split at h
    · rcases List.mem_cons.1 h with rfl|h
      · exact List.mem_cons_self
      · exact List.mem_cons_of_mem _ (wordsW_mem h)
    · exact List.mem_cons_of_mem _ (wordsW_mem h)
theorem allPfx_len:∀ (ws:List ByteArray),(∀ w ∈ ws,w.size≤12)→(allPfx ws).length≤1+12 * ws.length:=by
  intro ws h
  unfold allPfx
  rw [List.length_cons]
  have:(ws.flatMap fun w=>pfx w w.size).length≤12 * ws.length:=by
    induction ws with
    | nil=>simp
    | cons w ws ih =>
      rw [List.flatMap_cons,List.length_append,List.length_cons]
      have h1:=ih (fun x hx=>h x (List.mem_cons_of_mem _ hx))
      have h2:=h w List.mem_cons_self
      have h3:(pfx w w.size).length=w.size:=by simp [pfx]
      omega
  omega
theorem okTrieOf_of {ws:List ByteArray} (h12:∀ w ∈ ws,w.size≤12) (h40:ws.length≤1000000) (hs:SW ws):impl_trieOf.f ws=some (trieW ws):=by
  unfold impl_trieOf.f okTrieOf
  have:=allPfx_len ws h12
  rw [if_pos]
  simp only [Bool.and_eq_true,decide_eq_true_eq]
  exact ⟨⟨by omega,by omega⟩,hs⟩
theorem prefW_le (ws:List ByteArray) (h:∀ w ∈ ws,w.size≤12):(prefW ws).length≤1+12 * ws.length:=Nat.le_trans (prefW_len ws) (allPfx_len ws h)
theorem trieW_length (ws:List ByteArray):(trieW ws).length=(prefW ws).length:=List.length_map _
theorem isTrie_ev (l:List IN):Ev (fun k=>impl_isTrie.f k l) (isTrieW l):=by
  unfold impl_isTrie.f isTrieW
  refine Ev.bind (prefixes_ev l) ?_
  cases hp:prefixesW l with
  | none =>
    simp only [resP]
    refine Ev.neg (by decide) (Ev.succ ?_)
    simp only [impl_isTrie.j0]
    exact Ev.pos trivial (Ev.pure _)
  | some ps =>
    simp only [resP]
    have hl:=prefixesW_length hp
    refine Ev.pos trivial (Ev.bindc (t:=ps.any longW) (by unfold slices_ContainsFunc_string_string_impl_isTrie_1.f;rw [if_pos (by omega)]) (Ev.succ ?_))
    simp only [impl_isTrie.j0]
    by_cases h12:ps.any longW=true
    · rw [if_pos h12]
      exact Ev.pos h12 (Ev.pure _)
    · rw [if_neg h12]
      refine Ev.neg h12 (Ev.bind (words_ev l ps hp) ?_)
      have hsz:∀ w ∈ wordsW l ps,w.size≤12:=fun w hw=>by
        have h1:¬ longW w=true:=fun h2=>h12 (List.any_eq_true.2 ⟨w,wordsW_mem hw,h2⟩)
        simp [longW] at h1
        omega
      by_cases h40:(wordsW l ps).length≤40
      · rw [decide_eq_true h40,Bool.true_and]
        refine Ev.pos (by omega) (Ev.bind (sorted_ev _ (by omega)) ?_)
        by_cases hs:SW (wordsW l ps)
        · rw [decide_eq_true hs,Bool.true_and]
          have hle:=prefW_le _ hsz
          refine Ev.pos rfl (Ev.bindc (okTrieOf_of hsz (by omega) hs) (Ev.bind (node_ev _ _ (by rw [trieW_length];omega)) (Ev.pure _)))
        · rw [decide_eq_false hs,Bool.false_and]
          exact Ev.neg (by decide) (Ev.pure _)
      · rw [decide_eq_false h40,Bool.false_and]
        exact Ev.neg (by omega) (Ev.pure _)
end Go.Proofs.YtadpmgdmiaoniaaGreatDoor.Q
namespace Go.Proofs.YtadpmgdmiaoniaaGreatDoor.Q
open Go.RowKit Go.Proofs.YtadpmgdmiaoniaaGreatDoorW.PrintWords Go.Proofs.YtadpmgdmiaoniaaGreatDoorW.PrintLast
def letters (w:ByteArray):Prop:=∀ x ∈ lw w,97≤x.toNat∧x.toNat≤122
def okWord (w:ByteArray):Prop:=w.size≤12∧letters w
structure VW (ws:List ByteArray):Prop where
  ss:SS ws
  ok:∀ w ∈ ws,okWord w
  len:ws.length≤40
def V (l:List IN):Prop:=∃ ws,VW ws∧l=trieW ws
theorem letters_empty:letters ByteArray.empty:=fun x hx=>by cases hx
theorem letters_cut {w:ByteArray} (h:letters w) (n:Nat):letters (w.extract 0 n):=fun x hx=>by
  rw [lw_extract] at hx
  exact h x (List.mem_of_mem_take hx)
theorem prefW_ok {ws:List ByteArray} (h:∀ w ∈ ws,okWord w) {p:ByteArray} (hp:p ∈ prefW ws):okWord p:=by
  rcases mem_prefW.1 hp with rfl|⟨w,hw,j,hj,rfl⟩
  · exact ⟨Nat.zero_le _,letters_empty⟩
  · have:=(h w hw).1
    exact ⟨by rw [ext_size _ _ (by omega)];omega,letters_cut (h w hw).2 _⟩
theorem prefW_pos (ws:List ByteArray):0<(prefW ws).length:=List.length_pos_of_mem (mem_prefW.2 (.inl rfl))
theorem prefW_zero (ws:List ByteArray):rdOf ByteArray.empty (prefW ws) 0=ByteArray.empty:=by
  obtain ⟨k,hk,e⟩:=List.getElem_of_mem (mem_prefW.2 (.inl rfl):ByteArray.empty ∈ prefW ws)
  by_cases h0:k=0
  · subst h0
    have:=rd_nat (prefW ws) hk
    exact this.trans e
  · have h1:=ss_at (prefW_ss ws) (show 0<k by omega) hk
    rw [rd_nat _ hk,e] at h1
    exact absurd h1 (List.not_lt_nil _)
theorem prefW_nonzero (ws:List ByteArray) {k:Nat} (h0:0<k) (hk:k<(prefW ws).length):(rdOf ByteArray.empty (prefW ws) (k:Int)).size ≠ 0:=fun e=>by
  have h1:=ss_at (prefW_ss ws) h0 hk
  have h2:lw (rdOf ByteArray.empty (prefW ws) (k:Int))=[]:=List.eq_nil_of_length_eq_zero (by rw [lw_length];exact e)
  rw [h2] at h1
  exact absurd h1 (List.not_lt_nil _)
theorem lw_app (a b:ByteArray):lw (a ++ b)=lw a ++ lw b:=by simp [lw]
theorem lw_letterW (n:Int) (h0:0≤n) (h1:n≤25):lw (letterW n)=[UInt8.ofNat (97+n.toNat)]:=by
  have e:(wrap64 (97+n)) % 256=((97+n.toNat:Nat):Int):=by unfold wrap64;omega
  unfold letterW
  rw [e]
  rfl
theorem cut_last {p:ByteArray} (h:letters p) (h0:p.size ≠ 0):0≤(bt p ((p.size:Int) - 1)+159) % 256∧(bt p ((p.size:Int) - 1)+159) % 256≤25∧p.extract 0 (p.size - 1) ++ letterW ((bt p ((p.size:Int) - 1)+159) % 256)=p:=by
  have e:((p.size:Int) - 1).toNat=p.size - 1:=by omega
  have hlt:p.size - 1<p.size:=by omega
  have hl:p.size - 1<(lw p).length:=by rw [lw_length];omega
  have hb:bt p ((p.size:Int) - 1)=((p[p.size - 1]'hlt).toNat:Int):=by simp [bt,e,hlt]
  have hx:(lw p)[p.size - 1]'hl=p[p.size - 1]'hlt:=rfl
  have hr:=h _ (List.getElem_mem hl)
  rw [hx] at hr
  rw [hb]
  have h1:(((p[p.size - 1]'hlt).toNat:Int)+159) % 256=((p[p.size - 1]'hlt).toNat:Int) - 97:=by omega
  rw [h1]
  refine ⟨by omega,by omega,lw_inj ?_⟩
  rw [lw_app,lw_extract,lw_letterW _ (by omega) (by omega)]
  have h2:(97+(((p[p.size - 1]'hlt).toNat:Int) - 97).toNat)=(p[p.size - 1]'hlt).toNat:=by omega
  rw [h2,UInt8.ofNat_toNat,← hx]
  have h3:=List.take_append_getElem hl
  rw [h3]
  exact List.take_of_length_le (by rw [lw_length];omega)
theorem trieW_at (ws:List ByteArray) {i:Nat} (hi:i<(prefW ws).length):(trieW ws)[i]'(by rw [trieW_length];exact hi)=nodeW (prefW ws) ws (rdOf ByteArray.empty (prefW ws) (i:Int)):=by
  rw [rd_nat _ hi]
  simp [trieW]
theorem node_at (ws:List ByteArray) (ho:∀ w ∈ ws,okWord w) {i:Nat} (h0:0<i) (hi:i<(prefW ws).length):∃ j,j<i∧rdOf ByteArray.empty (prefW ws) (j:Int)=(rdOf ByteArray.empty (prefW ws) (i:Int)).extract 0 ((rdOf ByteArray.empty (prefW ws) (i:Int)).size - 1) ∧
    (nodeW (prefW ws) ws (rdOf ByteArray.empty (prefW ws) (i:Int))).f1=(j:Int)∧0≤(nodeW (prefW ws) ws (rdOf ByteArray.empty (prefW ws) (i:Int))).f0∧(nodeW (prefW ws) ws (rdOf ByteArray.empty (prefW ws) (i:Int))).f0≤25 ∧
    rdOf ByteArray.empty (prefW ws) (j:Int) ++ letterW (nodeW (prefW ws) ws (rdOf ByteArray.empty (prefW ws) (i:Int))).f0=rdOf ByteArray.empty (prefW ws) (i:Int):=by
  have hz:=prefW_nonzero ws h0 hi
  obtain ⟨p,hp⟩:∃ p,p=rdOf ByteArray.empty (prefW ws) (i:Int):=⟨_,rfl⟩
  rw [← hp] at hz ⊢
  obtain ⟨j,hj,e1,e2⟩:=cut_idx hi hp hz
  have hm:p ∈ prefW ws:=by rw [hp,rd_nat _ hi];exact List.getElem_mem hi
  obtain ⟨a1,a2,a3⟩:=cut_last (prefW_ok ho hm).2 hz
  refine ⟨j,hj,e1,?_,?_,?_,?_⟩
  · unfold nodeW;rw [if_neg hz];exact congrArg Nat.cast e2
  · unfold nodeW;rw [if_neg hz];exact a1
  · unfold nodeW;rw [if_neg hz];exact a2
  · unfold nodeW;rw [if_neg hz,e1];exact a3
theorem prefsW_trie (ws:List ByteArray) (ho:∀ w ∈ ws,okWord w):∀ (n i:Nat),0<i→i+n=(prefW ws).length→prefsW ((prefW ws).take i) ((trieW ws).drop i)=some (prefW ws):=by
  intro n
  induction n with
  | zero =>
    intro i _ h
    rw [List.take_of_length_le (by omega),List.drop_of_length_le (by rw [trieW_length];omega)]
    rfl
  | succ n ih =>
    intro i h0 h
    have hi:i<(prefW ws).length:=by omega
    have hi2:i<(trieW ws).length:=by rw [trieW_length];exact hi
    rw [List.drop_eq_getElem_cons hi2,trieW_at ws hi]
    obtain ⟨j,hj,_,e1,e2,e3,e4⟩:=node_at ws ho h0 hi
    simp only [prefsW]
    have hl:((prefW ws).take i).length=i:=by rw [List.length_take];omega
    rw [e1,hl,if_pos ⟨by omega,by omega,e2,e3⟩]
    have hr:rdOf ByteArray.empty ((prefW ws).take i) (j:Int)=rdOf ByteArray.empty (prefW ws) (j:Int):=by
      rw [rd_nat _ (by omega),rd_nat _ (by omega),List.getElem_take]
    rw [hr,e4,← take_rd _ _ hi]
    exact ih (i+1) (by omega) (by omega)
theorem prefixesW_trie {ws:List ByteArray} (h:VW ws):prefixesW (trieW ws)=some (prefW ws):=by
  have h1:=prefW_pos ws
  have h2:=prefW_le ws (fun w hw=>(h.ok w hw).1)
  have h3:=h.len
  unfold prefixesW
  rw [if_pos (by rw [trieW_length];omega)]
  have e:(prefW ws).take 1=[ByteArray.empty]:=by
    rw [take_rd _ 0 h1]
    show [] ++ [rdOf ByteArray.empty (prefW ws) 0]=_
    rw [prefW_zero];rfl
  have:=prefsW_trie ws h.ok ((prefW ws).length - 1) 1 (by omega) (by omega)
  rwa [e] at this
theorem hasW_map (ws:List ByteArray) (ps qs:List ByteArray):wordsW (qs.map (nodeW ps ws)) qs=qs.filter fun p=>hasW ws p:=by
  induction qs with
  | nil=>rfl
  | cons q qs ih =>
    have e:(nodeW ps ws q).f2=hasW ws q:=by unfold nodeW;split <;> rfl
    simp only [List.map_cons,wordsW,e,ih,List.filter_cons]
theorem mem_prefW_self {ws:List ByteArray} {w:ByteArray} (h:w ∈ ws):w ∈ prefW ws:=by
  by_cases h0:w.size=0
  · have:w=ByteArray.empty:=lw_inj (List.eq_nil_of_length_eq_zero (by rw [lw_length];exact h0))
    exact mem_prefW.2 (.inl this)
  · exact mem_prefW.2 (.inr ⟨w,h,w.size - 1,by omega,by rw [show w.size - 1+1=w.size by omega,ext_all]⟩)
theorem filter_ws {ws:List ByteArray} (h:SS ws):((prefW ws).filter fun p=>hasW ws p)=ws:=by
  refine ss_ext ((prefW_ss ws).filter _) h (fun x=>?_)
  rw [List.mem_filter,hasW_iff]
  exact ⟨fun h=>h.2,fun h=>⟨mem_prefW_self h,h⟩⟩
theorem wordsW_trie {ws:List ByteArray} (h:SS ws):wordsW (trieW ws) (prefW ws)=ws:=by
  unfold trieW
  rw [hasW_map,filter_ws h]
theorem prefW_set (ws:List ByteArray):prefW (setW ws)=prefW ws:=by
  refine ss_ext (prefW_ss _) (prefW_ss _) (fun x=>?_)
  rw [mem_prefW,mem_prefW]
  refine or_congr Iff.rfl ⟨?_,?_⟩
  · rintro ⟨w,hw,r⟩;exact ⟨w,mem_setW.1 hw,r⟩
  · rintro ⟨w,hw,r⟩;exact ⟨w,mem_setW.2 hw,r⟩
theorem hasW_set (ws:List ByteArray) (x:ByteArray):hasW (setW ws) x=hasW ws x:=by
  rw [Bool.eq_iff_iff,hasW_iff,hasW_iff,mem_setW]
theorem trieW_set (ws:List ByteArray):trieW (setW ws)=trieW ws:=by
  unfold trieW
  rw [prefW_set]
  refine List.map_congr_left fun p _=>?_
  unfold nodeW
  simp only [hasW_set]
theorem prefsW_letters:∀ {l:List IN} {ps r:List ByteArray},(∀ p ∈ ps,letters p)→prefsW ps l=some r→∀ p ∈ r,letters p
  | [],ps,r,hp,h=>by
    simp only [prefsW] at h
    injection h with h
    subst h;exact hp
  | n :: l,ps,r,hp,h=>by
    simp only [prefsW] at h
    split at h
    · rename_i hc
      refine prefsW_letters (fun p hm=>?_) h
      rcases List.mem_append.1 hm with hm|hm
      · exact hp p hm
      · rw [List.mem_singleton.1 hm]
        intro x hx
        rw [lw_app] at hx
        rcases List.mem_append.1 hx with hx|hx
        · exact hp _ (at_mem hc.1 hc.2.1) x hx
        · rw [lw_letterW _ hc.2.2.1 hc.2.2.2] at hx
          rw [List.mem_singleton.1 hx,UInt8.toNat_ofNat_of_lt' (by have:=hc.2.2;have hz:UInt8.size=256:=rfl;omega)]
          have:=hc.2.2
          omega
    · cases h
theorem isTrieW_iff (l:List IN):isTrieW l=true ↔ V l:=by
  constructor
  · intro h
    unfold isTrieW at h
    cases hp:prefixesW l with
    | none=>rw [hp] at h;cases h
    | some ps =>
      rw [hp] at h
      simp only at h
      split at h
      · cases h
      · rename_i h12
        simp only [Bool.and_eq_true,decide_eq_true_eq] at h
        obtain ⟨h40,_,hl⟩:=h
        refine ⟨setW (wordsW l ps),⟨setW_ss _,fun w hw=>?_,Nat.le_trans (setW_len _) h40⟩,by rw [trieW_set];exact hl.symm⟩
        have hm:=wordsW_mem (mem_setW.1 hw)
        refine ⟨?_,?_⟩
        · have h1:¬ longW w=true:=fun h2=>h12 (List.any_eq_true.2 ⟨w,hm,h2⟩)
          simp [longW] at h1
          omega
        · unfold prefixesW at hp
          split at hp
          · exact prefsW_letters (fun p hp=>by rw [List.mem_singleton.1 hp];exact letters_empty) hp w hm
          · cases hp
  · rintro ⟨ws,h,rfl⟩
    unfold isTrieW
    rw [prefixesW_trie h]
    simp only
    have h1:¬ (prefW ws).any longW=true:=fun hf=>by
      obtain ⟨p,hp,hl⟩:=List.any_eq_true.1 hf
      have:=(prefW_ok h.ok hp).1
      simp [longW] at hl
      omega
    rw [if_neg h1,wordsW_trie h.ss]
    simp only [Bool.and_eq_true,decide_eq_true_eq]
    exact ⟨h.len,h.ss.imp (fun h=>List.le_of_lt h),trivial⟩
end Go.Proofs.YtadpmgdmiaoniaaGreatDoor.Q
namespace Go.Proofs.YtadpmgdmiaoniaaGreatDoor.Q
open Go.RowKit Go.Proofs.YtadpmgdmiaoniaaGreatDoorW.PrintWords Go.Proofs.YtadpmgdmiaoniaaGreatDoorW.PrintLast
theorem l1In_eq (a b c:Int):spec_l1In.f a b c=some (decide (b≤a∧a≤c)):=by
  unfold spec_l1In.f
  by_cases h:b≤a
  · rw [if_pos h];congr 1;exact decide_eq_decide.2 (by omega)
  · rw [if_neg (by omega)];congr 1;exact (decide_eq_false (by omega)).symm
theorem bt_nat (a:ByteArray) (i:Nat) (h:i<(lw a).length):bt a (i:Int)=(((lw a)[i]'h).toNat:Int):=by
  have h2:i<a.size:=by rw [← lw_length];exact h
  have:((i:Int)).toNat<a.size:=by simpa using h2
  rw [← bt_at a (i:Int) this]
  rfl
theorem lt_drop:∀ (i:Nat) (x y:Ws),x.take i=y.take i→(x<y ↔ x.drop i<y.drop i)
  | 0,x,y,_=>Iff.rfl
  | i+1,[],[],_=>Iff.rfl
  | i+1,[],b :: y,h=>by simp at h
  | i+1,a :: x,[],h=>by simp at h
  | i+1,a :: x,b :: y,h=>by
    simp only [List.take_succ_cons,List.cons.injEq] at h
    obtain ⟨rfl,h⟩:=h
    rw [List.cons_lt_cons_self,List.drop_succ_cons,List.drop_succ_cons]
    exact lt_drop i x y h
theorem before_l0 (a b:ByteArray) (ha:a.size≤4294967296):∀ (n i:Nat),i+n=a.size→i≤b.size→(lw a).take i=(lw b).take i→Ev (fun k=>spec_l2Before.l0 k a b (i:Int)) (decide (lw a<lw b)):=by
  intro n
  induction n with
  | zero =>
    intro i h hib he
    refine Ev.succ ?_
    simp only [spec_l2Before.l0]
    refine Ev.neg (by omega) (Ev.succ ?_)
    simp only [spec_l2Before.j1]
    refine Ev.neg (by decide) ?_
    have e:decide ((a.size:Int)<(b.size:Int))=decide (lw a<lw b):=by
      refine decide_eq_decide.2 ?_
      rw [lt_drop i _ _ he,List.drop_of_length_le (by rw [lw_length];omega)]
      constructor
      · intro hq
        have hib2:i<(lw b).length:=by rw [lw_length];omega
        rw [List.drop_eq_getElem_cons hib2]
        exact List.nil_lt_cons _ _
      · intro hq
        have:(lw b).drop i ≠ []:=fun hn=>by rw [hn] at hq;exact absurd hq (List.not_lt_nil _)
        have h2:¬ (lw b).length≤i:=fun hn=>this (List.drop_of_length_le hn)
        rw [lw_length] at h2
        omega
    rw [e]
    exact Ev.pure _
  | succ n ih =>
    intro i h hib he
    refine Ev.succ ?_
    simp only [spec_l2Before.l0]
    have hia:i<(lw a).length:=by rw [lw_length];omega
    refine Ev.pos (by omega) (Ev.succ ?_)
    simp only [spec_l2Before.j1]
    by_cases hib2:i<b.size
    · have hbl:i<(lw b).length:=by rw [lw_length];omega
      simp only [bt_nat a i hia,bt_nat b i hbl]
      refine Ev.pos (by simpa using hib2) (Ev.pos (by omega) (Ev.pos (by omega) (Ev.pos (by omega) ?_)))
      by_cases e:(lw a)[i]=(lw b)[i]
      · refine Ev.pos (by rw [e]) ?_
        rw [wnext i (by omega)]
        refine ih (i+1) (by omega) (by omega) ?_
        rw [List.take_succ_eq_append_getElem hia,List.take_succ_eq_append_getElem hbl,he,e]
      · have hne:¬ (((lw a)[i]).toNat:Int)=(((lw b)[i]).toNat:Int):=fun hq=>e (UInt8.toNat.inj (by omega))
        refine Ev.neg hne ?_
        have e2:decide ((((lw a)[i]).toNat:Int)<(((lw b)[i]).toNat:Int))=decide (lw a<lw b):=by
          refine decide_eq_decide.2 ?_
          rw [lt_drop i _ _ he,List.drop_eq_getElem_cons hia,List.drop_eq_getElem_cons hbl,List.cons_lt_cons_iff]
          constructor
          · intro hq;exact .inl (UInt8.lt_iff_toNat_lt.2 (by omega))
          · rintro (hq|hq)
            · have:=UInt8.lt_iff_toNat_lt.1 hq;omega
            · exact absurd hq.1 e
        rw [e2]
        exact Ev.pure _
    · refine Ev.neg (by simpa using hib2) ?_
      have e:decide ((a.size:Int)<(b.size:Int))=decide (lw a<lw b):=by
        refine decide_eq_decide.2 ?_
        rw [lt_drop i _ _ he,List.drop_of_length_le (show (lw b).length≤i by rw [lw_length];omega)]
        exact ⟨fun hq=>absurd hq (by omega),fun hq=>absurd hq (List.not_lt_nil _)⟩
      rw [e]
      exact Ev.pure _
theorem before_ev (a b:ByteArray) (ha:a.size≤4294967296):Ev (fun k=>spec_l2Before.f k a b) (decide (lw a<lw b)):=by
  unfold spec_l2Before.f
  exact before_l0 a b ha a.size 0 (by omega) (by omega) rfl
theorem same_l0 (a b:List IN) (hl:a.length≤1048576):∀ (n i:Nat),i+n=a.length→i≤b.length→a.take i=b.take i→Ev (fun k=>spec_l2Same.l0 k (i:Int) a b) (decide (a=b)):=by
  intro n
  induction n with
  | zero =>
    intro i h hi he
    refine Ev.succ ?_
    simp only [spec_l2Same.l0]
    refine Ev.neg (by omega) (Ev.succ ?_)
    simp only [spec_l2Same.j1]
    refine Ev.neg (by decide) ?_
    have e:((a.length:Int) == (b.length:Int))=decide (a=b):=by
      rw [Bool.eq_iff_iff,beq_iff_eq,decide_eq_true_iff]
      constructor
      · intro hq
        rw [List.take_of_length_le (by omega),List.take_of_length_le (by omega)] at he
        exact he
      · rintro rfl;rfl
    rw [e]
    exact Ev.pure _
  | succ n ih =>
    intro i h hi he
    refine Ev.succ ?_
    simp only [spec_l2Same.l0]
    have hia:i<a.length:=by omega
    refine Ev.pos (by omega) (Ev.succ ?_)
    simp only [spec_l2Same.j1]
    by_cases hib:i<b.length
    · refine Ev.pos (by simpa using hib) (Ev.pos (by omega) (Ev.pos (by omega) (Ev.pos (by omega) ?_)))
      simp only [rd_nat' a i hia,rd_nat' b i hib]
      have hne:∀ x y:IN,(!(x.f0 == y.f0) || (!(x.f1 == y.f1) || !(x.f2 == y.f2)))=!decide (x=y):=fun x y=>by
        obtain ⟨x0,x1,x2⟩:=x
        obtain ⟨y0,y1,y2⟩:=y
        by_cases h0:x0=y0 <;> by_cases h1:x1=y1 <;> by_cases h2:x2=y2 <;> simp [h0,h1,h2]
      rw [hne]
      by_cases e:a[i]=b[i]
      · refine Ev.neg (by simp [e]) ?_
        rw [wnext i (by omega)]
        refine ih (i+1) (by omega) (by omega) ?_
        rw [List.take_succ_eq_append_getElem hia,List.take_succ_eq_append_getElem hib,he,e]
      · refine Ev.pos (by simp [e]) ?_
        rw [decide_eq_false (fun hq=>e (by subst hq;rfl))]
        exact Ev.pure _
    · refine Ev.neg (by simpa using hib) ?_
      have e:((a.length:Int) == (b.length:Int))=decide (a=b):=by
        rw [Bool.eq_iff_iff,beq_iff_eq,decide_eq_true_iff]
        constructor
        · intro hq;omega
        · rintro rfl;rfl
      rw [e]
      exact Ev.pure _
theorem same_ev (a b:List IN) (hl:a.length≤1048576):Ev (fun k=>spec_l2Same.f k a b) (decide (a=b)):=by
  unfold spec_l2Same.f
  exact same_l0 a b hl a.length 0 (by omega) (by omega) rfl
instance (w:ByteArray):Decidable (letters w):=inferInstanceAs (Decidable (∀ x ∈ lw w,97≤x.toNat∧x.toNat≤122))
instance (w:ByteArray):Decidable (okWord w):=inferInstanceAs (Decidable (w.size≤12∧letters w))
theorem word_l0 (a:ByteArray):∀ (n i:Nat),i+n=min a.size 13→(∀ x ∈ (lw a).take i,97≤x.toNat∧x.toNat≤122)→Ev (fun k=>spec_l2Word.l0 k a (i:Int)) (decide (okWord a)):=by
  intro n
  induction n with
  | zero =>
    intro i h hx
    refine Ev.succ ?_
    simp only [spec_l2Word.l0]
    have e:decide ((a.size:Int)≤12)=decide (okWord a):=by
      refine decide_eq_decide.2 ⟨fun hs=>⟨by omega,?_⟩,fun h=>by have:=h.1;omega⟩
      rw [List.take_of_length_le (by rw [lw_length];omega)] at hx
      exact hx
    by_cases hs:a.size≤12
    · refine Ev.neg (by omega) (Ev.succ ?_)
      simp only [spec_l2Word.j1]
      refine Ev.neg (by decide) ?_
      rw [e]
      exact Ev.pure _
    · have e1:i=13:=by omega
      by_cases h13:13<a.size
      · refine Ev.pos (by omega) (Ev.succ ?_)
        simp only [spec_l2Word.j1]
        refine Ev.neg (by simp;omega) ?_
        rw [e]
        exact Ev.pure _
      · refine Ev.neg (by omega) (Ev.succ ?_)
        simp only [spec_l2Word.j1]
        refine Ev.neg (by decide) ?_
        rw [e]
        exact Ev.pure _
  | succ n ih =>
    intro i h hx
    refine Ev.succ ?_
    simp only [spec_l2Word.l0]
    have hi:i<(lw a).length:=by rw [lw_length];omega
    refine Ev.pos (by omega) (Ev.succ ?_)
    simp only [spec_l2Word.j1,bt_nat a i hi]
    refine Ev.pos (by simp;omega) (Ev.pos (by omega) (Ev.pos (by omega) ?_))
    have hnot:¬ (97≤((lw a)[i]).toNat∧((lw a)[i]).toNat≤122)→decide (okWord a)=false:=fun hq=>decide_eq_false (fun ho=>hq (ho.2 _ (List.getElem_mem hi)))
    by_cases h1:97≤((lw a)[i]).toNat
    · refine Ev.neg (by omega) ?_
      by_cases h2:((lw a)[i]).toNat≤122
      · refine Ev.neg (by omega) ?_
        rw [wnext i (by omega)]
        refine ih (i+1) (by omega) (fun x hm=>?_)
        rw [List.take_succ_eq_append_getElem hi] at hm
        rcases List.mem_append.1 hm with hm|hm
        · exact hx x hm
        · rw [List.mem_singleton.1 hm];exact ⟨h1,h2⟩
      · rw [hnot (by omega)]
        exact Ev.pos (by omega) (Ev.pure _)
    · rw [hnot (by omega)]
      exact Ev.pos (by omega) (Ev.pure _)
theorem word_ev (a:ByteArray):Ev (fun k=>spec_l2Word.f k a) (decide (okWord a)):=by
  unfold spec_l2Word.f
  exact word_l0 a (min a.size 13) 0 (by omega) (fun x hx=>by cases hx)
theorem own_eq (l:List ByteArray) (hl:l.length<8796093022208):spec_l2Own.f l=some l:=by
  unfold spec_l2Own.f
  simp only [Option.bind_some,List.length_nil,Nat.zero_add,List.nil_append]
  rw [if_pos hl]
theorem ins_ss {l:List ByteArray} {w:ByteArray} {i:Nat} (h:SS l) (h1:∀ x ∈ l.take i,lw x<lw w) (h2:∀ x ∈ l.drop i,lw w<lw x):(l.take i ++ [w]) ++ l.drop i=setW (w :: l):=by
  have e:l=l.take i ++ l.drop i:=(List.take_append_drop i l).symm
  refine ss_ext ?_ (setW_ss _) (fun x=>?_)
  · unfold SS at h ⊢
    rw [e,List.pairwise_append] at h
    rw [List.append_assoc,List.pairwise_append]
    refine ⟨h.1,?_,fun a ha b hb=>?_⟩
    · rw [List.singleton_append,List.pairwise_cons]
      exact ⟨h2,h.2.1⟩
    · rcases List.mem_append.1 hb with hb|hb
      · rw [List.mem_singleton.1 hb];exact h1 a ha
      · exact h.2.2 a ha b hb
  · rw [mem_setW,List.mem_cons]
    constructor
    · intro hx
      rcases List.mem_append.1 hx with hx|hx
      · rcases List.mem_append.1 hx with hx|hx
        · exact .inr (List.mem_of_mem_take hx)
        · exact .inl (List.mem_singleton.1 hx)
      · exact .inr (List.mem_of_mem_drop hx)
    · rintro (rfl|hx)
      · simp
      · rw [e] at hx
        rcases List.mem_append.1 hx with hx|hx
        · exact List.mem_append_left _ (List.mem_append_left _ hx)
        · exact List.mem_append_right _ hx
theorem put_l0 (l:List ByteArray) (w:ByteArray) (hl:l.length≤4294967296) (hz:∀ x ∈ l,x.size≤4294967296) (hs:SS l):∀ (n i:Nat),i+n=l.length→(∀ x ∈ l.take i,lw x<lw w)→Ev (fun k=>spec_l2Put.l0 k l w (i:Int)) (setW (w :: l)):=by
  intro n
  induction n with
  | zero =>
    intro i h h1
    refine Ev.succ ?_
    simp only [spec_l2Put.l0]
    have e1:(l.take i).length=i:=by rw [List.length_take];omega
    refine Ev.neg (by omega) (Ev.pos (by omega) (Ev.pos (by omega) (Ev.bindc (own_eq _ (by rw [Int.toNat_natCast,e1];omega)) ?_)))
    simp only [Option.bind_some,Int.toNat_natCast]
    refine Ev.pos (by simp;omega) (Ev.pos (by simp;omega) ?_)
    rw [ins_ss hs h1 (by rw [List.drop_of_length_le (by omega)];intro x hx;cases hx)]
    exact Ev.pure _
  | succ n ih =>
    intro i h h1
    refine Ev.succ ?_
    simp only [spec_l2Put.l0]
    have hi:i<l.length:=by omega
    have e1:(l.take i).length=i:=by rw [List.length_take];omega
    refine Ev.pos (by omega) (Ev.pos (by omega) ?_)
    simp only [rd_nat l hi]
    refine Ev.bind (before_ev _ _ (hz _ (List.getElem_mem hi))) ?_
    by_cases hb:lw l[i]<lw w
    · refine Ev.pos (decide_eq_true hb) ?_
      rw [wnext i (by omega)]
      refine ih (i+1) (by omega) (fun x hx=>?_)
      rw [List.take_succ_eq_append_getElem hi] at hx
      rcases List.mem_append.1 hx with hx|hx
      · exact h1 x hx
      · rw [List.mem_singleton.1 hx];exact hb
    · refine Ev.neg (fun h2=>hb (of_decide_eq_true h2)) ?_
      by_cases e:l[i]=w
      · refine Ev.pos ((tl_eq _ _).2 e) ?_
        have e2:setW (w :: l)=l:=ss_ext (setW_ss _) hs (fun x=>by
          rw [mem_setW,List.mem_cons]
          exact ⟨fun hx=>hx.elim (fun hx=>by rw [hx,← e];exact List.getElem_mem hi) id,.inr⟩)
        rw [e2]
        exact Ev.pure _
      · have hgt:lw w<lw l[i]:=by
          refine List.not_le.1 (fun hle=>?_)
          exact e (lw_inj (List.le_antisymm hle (List.not_lt.1 hb)))
        refine Ev.neg (fun h2=>e ((tl_eq _ _).1 h2)) (Ev.pos (by omega) (Ev.bindc (own_eq _ (by rw [Int.toNat_natCast,e1];omega)) ?_))
        simp only [Option.bind_some,Int.toNat_natCast]
        refine Ev.pos (by simp;omega) (Ev.pos (by simp;omega) ?_)
        rw [ins_ss hs h1 (fun x hx=>?_)]
        · exact Ev.pure _
        · rw [List.drop_eq_getElem_cons hi] at hx
          rcases List.mem_cons.1 hx with rfl|hx
          · exact hgt
          · have:=List.pairwise_append.1 ((List.take_append_drop (i+1) l).symm ▸ hs:SS (l.take (i+1) ++ l.drop (i+1)))
            have hm:l[i] ∈ l.take (i+1):=by
              rw [List.take_succ_eq_append_getElem hi]
              exact List.mem_append_right _ (List.mem_singleton.2 rfl)
            exact List.lt_trans hgt (this.2.2 l[i] hm x hx)
theorem put_ev (l:List ByteArray) (w:ByteArray) (hl:l.length≤4294967296) (hz:∀ x ∈ l,x.size≤4294967296) (hs:SS l):Ev (fun k=>spec_l2Put.f k l w) (setW (w :: l)):=by
  unfold spec_l2Put.f
  exact put_l0 l w hl hz hs l.length 0 (by omega) (fun x hx=>by cases hx)
end Go.Proofs.YtadpmgdmiaoniaaGreatDoor.Q
namespace Go.Proofs.YtadpmgdmiaoniaaGreatDoor.Q
open Go.RowKit Go.Proofs.YtadpmgdmiaoniaaGreatDoorW.PrintWords Go.Proofs.YtadpmgdmiaoniaaGreatDoorW.PrintLast
def setRes (l:List ByteArray):List ByteArray × Bool:=if ∀ w ∈ l,okWord w then (setW l,decide (((setW l).length:Int)≤40)) else ([],false)
theorem setW_cons_set (w:ByteArray) (l:List ByteArray):setW (w :: setW l)=setW (l ++ [w]):=ss_ext (setW_ss _) (setW_ss _) (fun x=>by
  rw [mem_setW,mem_setW,List.mem_cons,mem_setW,List.mem_append,List.mem_singleton]
  exact or_comm)
theorem set_l0 (l:List ByteArray) (hl:l.length≤4294967296):∀ (n i:Nat),i+n=l.length→(∀ w ∈ l.take i,okWord w)→Ev (fun k=>spec_l2Set.l0 k l (setW (l.take i)) (i:Int)) (setRes l):=by
  intro n
  induction n with
  | zero =>
    intro i h ho
    refine Ev.succ ?_
    simp only [spec_l2Set.l0]
    rw [List.take_of_length_le (by omega)] at ho ⊢
    unfold setRes
    rw [if_pos ho]
    exact Ev.neg (by omega) (Ev.pure _)
  | succ n ih =>
    intro i h ho
    refine Ev.succ ?_
    simp only [spec_l2Set.l0]
    have hi:i<l.length:=by omega
    refine Ev.pos (by omega) (Ev.pos (by omega) ?_)
    simp only [rd_nat l hi]
    refine Ev.bind (word_ev _) ?_
    by_cases hw:okWord l[i]
    · have h1:=setW_len (l.take i)
      rw [List.length_take] at h1
      refine Ev.pos (decide_eq_true hw) (Ev.bind (put_ev _ _ (by omega) (fun x hx=>by have:=(ho x (mem_setW.1 hx)).1;omega) (setW_ss _)) ?_)
      rw [wnext i (by omega),setW_cons_set,← List.take_succ_eq_append_getElem hi]
      refine ih (i+1) (by omega) (fun w hm=>?_)
      rw [List.take_succ_eq_append_getElem hi] at hm
      rcases List.mem_append.1 hm with hm|hm
      · exact ho w hm
      · rw [List.mem_singleton.1 hm];exact hw
    · refine Ev.neg (fun h2=>hw (of_decide_eq_true h2)) ?_
      unfold setRes
      rw [if_neg (fun hf=>hw (hf _ (List.getElem_mem hi)))]
      exact Ev.pure _
theorem set_ev (l:List ByteArray) (hl:l.length≤4294967296):Ev (fun k=>spec_l2Set.f k l) (setRes l):=by
  unfold spec_l2Set.f
  have e:setW (l.take 0)=[]:=List.eq_nil_of_length_eq_zero (Nat.le_zero.1 (setW_len _))
  have:=set_l0 l hl l.length 0 (by omega) (fun w hw=>by cases hw)
  rw [e] at this
  exact this
theorem has_l0 (l:List ByteArray) (x:ByteArray) (hl:l.length≤4294967296):∀ (n i:Nat),i+n=l.length→(∀ y ∈ l.take i,y ≠ x)→Ev (fun k=>spec_l2Has.l0 k l x (i:Int)) (hasW l x):=by
  intro n
  induction n with
  | zero =>
    intro i h ho
    refine Ev.succ ?_
    simp only [spec_l2Has.l0]
    rw [List.take_of_length_le (by omega)] at ho
    have e:hasW l x=false:=by
      rw [Bool.eq_false_iff]
      intro hf
      exact ho x ((hasW_iff l x).1 hf) rfl
    rw [e]
    exact Ev.neg (by omega) (Ev.pure _)
  | succ n ih =>
    intro i h ho
    refine Ev.succ ?_
    simp only [spec_l2Has.l0]
    have hi:i<l.length:=by omega
    refine Ev.pos (by omega) (Ev.pos (by omega) ?_)
    simp only [rd_nat l hi]
    by_cases e:l[i]=x
    · have e2:hasW l x=true:=(hasW_iff l x).2 (e ▸ List.getElem_mem hi)
      rw [e2]
      exact Ev.pos ((tl_eq _ _).2 e) (Ev.pure _)
    · refine Ev.neg (fun h2=>e ((tl_eq _ _).1 h2)) ?_
      rw [wnext i (by omega)]
      refine ih (i+1) (by omega) (fun y hm=>?_)
      rw [List.take_succ_eq_append_getElem hi] at hm
      rcases List.mem_append.1 hm with hm|hm
      · exact ho y hm
      · rw [List.mem_singleton.1 hm];exact e
theorem has_ev (l:List ByteArray) (x:ByteArray) (hl:l.length≤4294967296):Ev (fun k=>spec_l2Has.f k l x) (hasW l x):=by
  unfold spec_l2Has.f
  exact has_l0 l x hl l.length 0 (by omega) (fun w hw=>by cases hw)
def placeW (l:List ByteArray) (x:ByteArray):Int:=if hasW l x=true then (l.findIdx (fun y=>decide (y=x)):Int) else -1
theorem place_l0 (l:List ByteArray) (x:ByteArray) (hl:l.length≤4294967296):∀ (n i:Nat),i+n=l.length→(∀ y ∈ l.take i,y ≠ x)→Ev (fun k=>spec_l2Place.l0 k l x (i:Int)) (placeW l x):=by
  intro n
  induction n with
  | zero =>
    intro i h ho
    refine Ev.succ ?_
    simp only [spec_l2Place.l0]
    rw [List.take_of_length_le (by omega)] at ho
    unfold placeW
    rw [if_neg (fun hf=>ho x ((hasW_iff l x).1 hf) rfl)]
    exact Ev.neg (by omega) (Ev.pure _)
  | succ n ih =>
    intro i h ho
    refine Ev.succ ?_
    simp only [spec_l2Place.l0]
    have hi:i<l.length:=by omega
    refine Ev.pos (by omega) (Ev.pos (by omega) ?_)
    simp only [rd_nat l hi]
    by_cases e:l[i]=x
    · have e3:l.findIdx (fun y=>decide (y=x))=i:=by
        refine (List.findIdx_eq hi).2 ⟨by simp [e],fun j hj=>?_⟩
        have:l[j] ∈ l.take i:=List.mem_take_iff_getElem.2 ⟨j,by omega,rfl⟩
        exact decide_eq_false (ho _ this)
      unfold placeW
      rw [if_pos ((hasW_iff l x).2 (e ▸ List.getElem_mem hi)),e3]
      exact Ev.pos ((tl_eq _ _).2 e) (Ev.pure _)
    · refine Ev.neg (fun h2=>e ((tl_eq _ _).1 h2)) ?_
      rw [wnext i (by omega)]
      refine ih (i+1) (by omega) (fun y hm=>?_)
      rw [List.take_succ_eq_append_getElem hi] at hm
      rcases List.mem_append.1 hm with hm|hm
      · exact ho y hm
      · rw [List.mem_singleton.1 hm];exact e
theorem place_ev (l:List ByteArray) (x:ByteArray) (hl:l.length≤4294967296):Ev (fun k=>spec_l2Place.f k l x) (placeW l x):=by
  unfold spec_l2Place.f
  exact place_l0 l x hl l.length 0 (by omega) (fun w hw=>by cases hw)
theorem of_l2 (ws:List ByteArray) (ho:∀ w ∈ ws,okWord w) (hl:ws.length≤1000000):∀ (n i:Nat),i+n=(prefW ws).length→Ev (fun k=>spec_l2Of.l2 k ws (prefW ws) (i:Int) ((trieW ws).take i)) (trieW ws):=by
  have hle:=prefW_le ws (fun w hw=>(ho w hw).1)
  intro n
  induction n with
  | zero =>
    intro i h
    refine Ev.succ ?_
    simp only [spec_l2Of.l2]
    rw [List.take_of_length_le (by rw [trieW_length];omega)]
    exact Ev.neg (by omega) (Ev.pure _)
  | succ n ih =>
    intro i h
    refine Ev.succ ?_
    simp only [spec_l2Of.l2]
    have hi:i<(prefW ws).length:=by omega
    have hi2:i<(trieW ws).length:=by rw [trieW_length];exact hi
    have hlt:((trieW ws).take i).length=i:=by rw [List.length_take];omega
    refine Ev.pos (by omega) (Ev.pos (by omega) (Ev.bind (has_ev ws _ (by omega)) ?_))
    have hq:=ih (i+1) (by omega)
    rw [List.take_succ_eq_append_getElem hi2,trieW_at ws hi] at hq
    obtain ⟨p,hp⟩:∃ p,p=rdOf ByteArray.empty (prefW ws) (i:Int):=⟨_,rfl⟩
    rw [← hp] at hq ⊢
    have hm:p ∈ prefW ws:=by rw [hp,rd_nat _ hi];exact List.getElem_mem hi
    have hsz:=(prefW_ok ho hm).1
    by_cases h0:0<i
    · have hz:=prefW_nonzero ws h0 hi
      rw [← hp] at hz
      have e1:wrap64 ((p.size:Int) - 1)=((p.size - 1:Nat):Int):=by unfold wrap64;omega
      rw [e1]
      refine Ev.pos (by omega) (Ev.pos (by omega) (Ev.pos (by omega) (Ev.pos (by omega) (Ev.bind (place_ev _ _ (by omega)) (Ev.pos (by omega) ?_)))))
      rw [wnext i (by omega)]
      have e2:(⟨(bt p ((p.size - 1:Nat):Int) - 97) % 256,placeW (prefW ws) (p.extract 0 (((p.size - 1:Nat):Int)).toNat),hasW ws p⟩:IN)=nodeW (prefW ws) ws p:=by
        unfold nodeW placeW
        rw [if_neg hz,Int.toNat_natCast,if_pos ((hasW_iff _ _).2 (prefW_closed hm))]
        have e3:((p.size - 1:Nat):Int)=(p.size:Int) - 1:=by omega
        rw [e3]
        congr 1
        omega
      rw [e2]
      exact hq
    · have hi0:i=0:=by omega
      have hz:p.size=0:=by
        rw [hp,hi0]
        have:=prefW_zero ws
        rw [show ((0:Nat):Int)=0 from rfl,this];rfl
      rw [node_root hz] at hq
      refine Ev.neg (by omega) (Ev.pos (by omega) ?_)
      rw [wnext i (by omega)]
      exact hq
theorem pfx_le (w:ByteArray) (n:Nat) (x:ByteArray) (h:x ∈ pfx w n):x.size≤w.size:=by
  obtain ⟨j,_,rfl⟩:=List.mem_map.1 h
  rw [ByteArray.size_extract];omega
theorem allPfx_size {ws:List ByteArray} (ho:∀ w ∈ ws,okWord w) {x:ByteArray} (h:x ∈ allPfx ws):x.size≤12:=by
  unfold allPfx at h
  rcases List.mem_cons.1 h with rfl|h
  · exact Nat.zero_le _
  · obtain ⟨w,hw,hx⟩:=List.mem_flatMap.1 h
    exact Nat.le_trans (pfx_le w _ x hx) (ho w hw).1
theorem of_l0 (ws:List ByteArray) (ho:∀ w ∈ ws,okWord w) (hl:ws.length≤1000000):∀ (n i:Nat),i+n=ws.length→Ev (fun k=>spec_l2Of.l0 k ws (setW (allPfx (ws.take i))) (i:Int)) (trieW ws):=by
  intro n
  induction n with
  | zero =>
    intro i h
    refine Ev.succ ?_
    simp only [spec_l2Of.l0]
    rw [List.take_of_length_le (by omega)]
    refine Ev.neg (by omega) ?_
    have:=of_l2 ws ho hl (prefW ws).length 0 (by omega)
    exact this
  | succ n ih =>
    intro i h
    have hi:i<ws.length:=by omega
    have hok:=ho _ (List.getElem_mem hi)
    refine Ev.succ ?_
    simp only [spec_l2Of.l0]
    refine Ev.pos (by omega) ?_
    have hot:∀ w ∈ ws.take i,okWord w:=fun w hw=>ho w (List.mem_of_mem_take hw)
    have hal:=allPfx_len (ws.take i) (fun w hw=>(hot w hw).1)
    rw [List.length_take] at hal
    have key:∀ (m j:Nat),j+m=ws[i].size→Ev (fun k=>spec_l2Of.l1 k ws (setW (allPfx (ws.take i) ++ pfx ws[i] j)) (i:Int) ((j:Int)+1)) (trieW ws):=by
      intro m
      induction m with
      | zero =>
        intro j hj
        refine Ev.succ ?_
        simp only [spec_l2Of.l1,rd_nat ws hi]
        refine Ev.pos (by omega) (Ev.pos (by omega) (Ev.neg (by omega) ?_))
        rw [wnext i (by omega)]
        have hq:=ih (i+1) (by omega)
        rw [allPfx_take ws i hi,rd_nat ws hi] at hq
        have:j=ws[i].size:=by omega
        rw [this]
        exact hq
      | succ m ihm =>
        intro j hj
        refine Ev.succ ?_
        simp only [spec_l2Of.l1,rd_nat ws hi]
        have h12:=hok.1
        have hln:=setW_len (allPfx (ws.take i) ++ pfx ws[i] j)
        rw [List.length_append,pfx_length] at hln
        refine Ev.pos (by omega) (Ev.pos (by omega) (Ev.pos (by omega) (Ev.pos (by omega) (Ev.bind (put_ev _ _ (by omega) (fun x hx=>?_) (setW_ss _)) ?_))))
        · rcases List.mem_append.1 (mem_setW.1 hx) with hx|hx
          · have:=allPfx_size hot hx;omega
          · have:=pfx_le _ _ _ hx;omega
        · have e1:wrap64 ((j:Int)+1+1)=((j+1:Nat):Int)+1:=by unfold wrap64;omega
          have e2:((j:Int)+1).toNat=j+1:=by omega
          rw [e1,e2,setW_cons_set,List.append_assoc,← pfx_succ]
          exact ihm (j+1) (by omega)
    have:=key ws[i].size 0 (by omega)
    have e:pfx ws[i] 0=[]:=rfl
    rw [e,List.append_nil] at this
    exact this
theorem of_ev (ws:List ByteArray) (ho:∀ w ∈ ws,okWord w) (hl:ws.length≤1000000):Ev (fun k=>spec_l2Of.f k ws) (trieW ws):=by
  unfold spec_l2Of.f
  have:=of_l0 ws ho hl ws.length 0 (by omega)
  have e:setW (allPfx (ws.take 0))=[⟨#[]⟩]:=ss_ext (setW_ss _) (List.pairwise_singleton _ _) (fun x=>by rw [mem_setW];exact Iff.rfl)
  rw [e] at this
  exact this
end Go.Proofs.YtadpmgdmiaoniaaGreatDoor.Q
namespace Go.Proofs.YtadpmgdmiaoniaaGreatDoor.Q
open Go.RowKit Go.Proofs.YtadpmgdmiaoniaaGreatDoorW.PrintWords Go.Proofs.YtadpmgdmiaoniaaGreatDoorW.PrintLast
def qm:ByteArray:=⟨#[63]⟩
def prefX:Nat→List IN→Int→ByteArray→ByteArray
  | 0,_,node,s=>if node=0 then s else qm
  | n+1,l,node,s =>
    if node > 0 then
      (if 0≤(rd_T70 l node).f0∧(rd_T70 l node).f0≤25 then
        (if (rd_T70 l node).f1 ≥ node then qm else prefX n l (rd_T70 l node).f1 (letterW (rd_T70 l node).f0 ++ s)) else qm)
    else if node=0 then s else qm
theorem prefix_l0 (l:List IN):∀ (n:Nat) (node:Int) (s:ByteArray),node<l.length→s.size+n=13→Ev (fun k=>spec_l2Prefix.l0 k node s l) (prefX n l node s):=by
  intro n
  induction n with
  | zero =>
    intro node s hn hs
    refine Ev.succ ?_
    simp only [spec_l2Prefix.l0,prefX]
    have key:Ev (fun k=>spec_l2Prefix.j1 k node s false l) (if node=0 then s else qm):=by
      refine Ev.succ ?_
      simp only [spec_l2Prefix.j1]
      refine Ev.neg (by decide) ?_
      by_cases h0:node=0
      · rw [if_pos h0,if_pos h0];exact Ev.pure _
      · rw [if_neg h0,if_neg h0];exact Ev.pure _
    have e:decide ((s.size:Int)≤12)=false:=decide_eq_false (by omega)
    rw [e]
    by_cases h:node > 0
    · exact Ev.pos h key
    · exact Ev.neg h key
  | succ n ih =>
    intro node s hn hs
    refine Ev.succ ?_
    simp only [spec_l2Prefix.l0,prefX]
    by_cases h:node > 0
    · rw [if_pos h]
      refine Ev.pos h (Ev.succ ?_)
      simp only [spec_l2Prefix.j1,l1In_eq,Option.bind_some]
      refine Ev.pos (decide_eq_true (by omega)) (Ev.pos (by omega) (Ev.pos hn ?_))
      by_cases h2:0≤(rd_T70 l node).f0∧(rd_T70 l node).f0≤25
      · rw [if_pos h2]
        refine Ev.pos (decide_eq_true h2) ?_
        by_cases h3:(rd_T70 l node).f1 ≥ node
        · rw [if_pos h3];exact Ev.pos h3 (Ev.pure _)
        · rw [if_neg h3]
          have hls:=letterW_size (rd_T70 l node).f0
          unfold letterW at hls
          refine Ev.neg h3 (Ev.pos (by rw [hls];omega) ?_)
          refine ih _ _ (by omega) ?_
          rw [size_app,hls]
          omega
      · rw [if_neg h2]
        exact Ev.neg (fun hf=>h2 (of_decide_eq_true hf)) (Ev.pure _)
    · rw [if_neg h]
      refine Ev.neg h (Ev.succ ?_)
      simp only [spec_l2Prefix.j1]
      refine Ev.neg (by decide) ?_
      by_cases h0:node=0
      · rw [if_pos h0,if_pos h0];exact Ev.pure _
      · rw [if_neg h0,if_neg h0];exact Ev.pure _
theorem prefix_ev (l:List IN) (node:Int) (h:node<l.length):Ev (fun k=>spec_l2Prefix.f k l node) (prefX 13 l node ByteArray.empty):=by
  unfold spec_l2Prefix.f
  exact prefix_l0 l 13 node ByteArray.empty h rfl
def wordsX (l:List IN):List Nat→List ByteArray
  | []=>[]
  | i :: r=>if (rd_T70 l (i:Int)).f2=true then prefX 13 l (i:Int) ByteArray.empty :: wordsX l r else wordsX l r
theorem words_l0X (l:List IN) (hl:l.length≤1048576):∀ (n i:Nat) (acc:List ByteArray),i+n=l.length→acc.length≤i→Ev (fun k=>spec_l2Words.l0 k acc (i:Int) l) (acc ++ wordsX l (List.range' i n)):=by
  intro n
  induction n with
  | zero =>
    intro i acc h ha
    refine Ev.succ ?_
    simp only [spec_l2Words.l0,List.range'_zero,wordsX,List.append_nil]
    exact Ev.neg (by omega) (Ev.pure _)
  | succ n ih =>
    intro i acc h ha
    refine Ev.succ ?_
    simp only [spec_l2Words.l0,List.range'_succ,wordsX]
    refine Ev.pos (by omega) (Ev.pos (by omega) ?_)
    rw [wnext i (by omega)]
    by_cases e:(rd_T70 l (i:Int)).f2=true
    · rw [if_pos e]
      refine Ev.pos e (Ev.bind (prefix_ev l (i:Int) (by omega)) (Ev.pos (by omega) ?_))
      have:=ih (i+1) (acc ++ [prefX 13 l (i:Int) ByteArray.empty]) (by omega) (by simp;omega)
      simpa using this
    · rw [if_neg e]
      exact Ev.neg e (ih (i+1) acc (by omega) (by omega))
def wordsS (l:List IN):List ByteArray:=wordsX l (List.range' 0 l.length)
theorem wordsS_ev (l:List IN) (hl:l.length≤1048576):Ev (fun k=>spec_l2Words.f k l) (wordsS l):=by
  unfold spec_l2Words.f
  have:=words_l0X l hl l.length 0 [] (by omega) (Nat.le_refl _)
  simpa [wordsS] using this
theorem wordsX_length (l:List IN):∀ r,(wordsX l r).length≤r.length
  | []=>Nat.le_refl _
  | i :: r=>by
    have:=wordsX_length l r
    simp only [wordsX]
    split <;> simp <;> omega
theorem prefX_trie (ws:List ByteArray) (ho:∀ w ∈ ws,okWord w):∀ (n i:Nat) (s:ByteArray),i<(prefW ws).length→(rdOf ByteArray.empty (prefW ws) (i:Int)).size<n→prefX n (trieW ws) (i:Int) s=rdOf ByteArray.empty (prefW ws) (i:Int) ++ s:=by
  intro n
  induction n with
  | zero=>intro i s _ h;exact absurd h (Nat.not_lt_zero _)
  | succ n ih =>
    intro i s hi hs
    simp only [prefX]
    by_cases h0:0<i
    · have hi2:i<(trieW ws).length:=by rw [trieW_length];exact hi
      rw [if_pos (by omega),rd_nat' _ i hi2,trieW_at ws hi]
      obtain ⟨j,hj,e0,e1,e2,e3,e4⟩:=node_at ws ho h0 hi
      rw [if_pos ⟨e2,e3⟩,e1,if_neg (by omega),ih j _ (by omega) ?_]
      · apply lw_inj
        rw [lw_app,lw_app,← List.append_assoc,← lw_app,e4,lw_app]
      · rw [e0,ByteArray.size_extract]
        have:=prefW_nonzero ws h0 hi
        omega
    · obtain rfl:i=0:=by omega
      rw [if_neg (by omega),if_pos (by omega)]
      have:=prefW_zero ws
      rw [show ((0:Nat):Int)=0 from rfl,this]
      apply lw_inj
      rw [lw_app];rfl
theorem app_empty (a:ByteArray):a ++ ByteArray.empty=a:=lw_inj (by rw [lw_app];exact List.append_nil _)
theorem prefX_trie13 {ws:List ByteArray} (ho:∀ w ∈ ws,okWord w) {i:Nat} (hi:i<(prefW ws).length):prefX 13 (trieW ws) (i:Int) ByteArray.empty=rdOf ByteArray.empty (prefW ws) (i:Int):=by
  have hm:rdOf ByteArray.empty (prefW ws) (i:Int) ∈ prefW ws:=by rw [rd_nat _ hi];exact List.getElem_mem hi
  have:=(prefW_ok ho hm).1
  rw [prefX_trie ws ho 13 i _ hi (by omega),app_empty]
theorem wordsX_trie {ws:List ByteArray} (ho:∀ w ∈ ws,okWord w):∀ (n i:Nat),i+n=(prefW ws).length→wordsX (trieW ws) (List.range' i n)=((prefW ws).drop i).filter fun p=>hasW ws p:=by
  intro n
  induction n with
  | zero =>
    intro i h
    rw [List.drop_of_length_le (by omega)]
    rfl
  | succ n ih =>
    intro i h
    have hi:i<(prefW ws).length:=by omega
    have hi2:i<(trieW ws).length:=by rw [trieW_length];exact hi
    rw [List.range'_succ,List.drop_eq_getElem_cons hi,List.filter_cons]
    simp only [wordsX]
    rw [rd_nat' _ i hi2,trieW_at ws hi,prefX_trie13 ho hi,ih (i+1) (by omega),rd_nat _ hi]
    have e:(nodeW (prefW ws) ws (prefW ws)[i]).f2=hasW ws (prefW ws)[i]:=by unfold nodeW;split <;> rfl
    rw [e]
theorem wordsS_trie {ws:List ByteArray} (h:VW ws):wordsS (trieW ws)=ws:=by
  unfold wordsS
  rw [trieW_length,wordsX_trie h.ok _ 0 (by omega),List.drop_zero,filter_ws h.ss]
def isTrieS (l:List IN):Bool:=decide (1≤l.length∧l.length≤481) && ((setRes (wordsS l)).2 && decide (trieW (setRes (wordsS l)).1=l))
theorem trieS_ev (l:List IN):Ev (fun k=>spec_l2Trie.f k l) (isTrieS l):=by
  unfold spec_l2Trie.f isTrieS
  simp only [l1In_eq,Option.bind_some]
  by_cases h:1≤l.length∧l.length≤481
  · rw [decide_eq_true h,Bool.true_and]
    have hwl:=wordsX_length l (List.range' 0 l.length)
    rw [List.length_range'] at hwl
    refine Ev.pos (decide_eq_true (by omega)) (Ev.bind (wordsS_ev l (by omega)) (Ev.bind (set_ev _ (by unfold wordsS;omega)) ?_))
    by_cases h2:(setRes (wordsS l)).2=true
    · rw [h2,Bool.true_and]
      refine Ev.pos rfl ?_
      have hok:∀ w ∈ wordsS l,okWord w:=by
        unfold setRes at h2
        split at h2
        · assumption
        · cases h2
      have e1:(setRes (wordsS l)).1=setW (wordsS l):=by unfold setRes;rw [if_pos hok]
      rw [e1]
      have hok2:∀ w ∈ setW (wordsS l),okWord w:=fun w hw=>hok w (mem_setW.1 hw)
      have hl2:=setW_len (wordsS l)
      have hl3:(wordsS l).length≤l.length:=hwl
      have hle:=prefW_le (setW (wordsS l)) (fun w hw=>(hok2 w hw).1)
      exact Ev.bind (of_ev _ hok2 (by omega)) (Ev.bind (same_ev _ _ (by rw [trieW_length];omega)) (Ev.pure _))
    · rw [Bool.not_eq_true] at h2
      rw [h2,Bool.false_and]
      exact Ev.neg (by decide) (Ev.pure _)
  · rw [decide_eq_false h,Bool.false_and]
    exact Ev.neg (fun hf=>h (by have:=of_decide_eq_true hf;omega)) (Ev.pure _)
theorem isTrieS_iff (l:List IN):isTrieS l=true ↔ V l:=by
  constructor
  · intro h
    unfold isTrieS at h
    simp only [Bool.and_eq_true,decide_eq_true_eq] at h
    obtain ⟨_,h2,h3⟩:=h
    unfold setRes at h2 h3
    split at h2
    · rename_i hok
      rw [if_pos hok] at h3
      simp only [decide_eq_true_eq] at h2
      exact ⟨_,⟨setW_ss _,fun w hw=>hok w (mem_setW.1 hw),by omega⟩,h3.symm⟩
    · cases h2
  · rintro ⟨ws,h,rfl⟩
    unfold isTrieS
    have h1:=prefW_pos ws
    have h2:=prefW_le ws (fun w hw=>(h.ok w hw).1)
    have h3:=h.len
    have e:setRes (wordsS (trieW ws))=(ws,true):=by
      rw [wordsS_trie h]
      unfold setRes
      rw [if_pos h.ok,setW_of_ss h.ss,decide_eq_true (by omega)]
    rw [e,trieW_length]
    simp
    omega
theorem trie_same (l:List IN):isTrieS l=isTrieW l:=by rw [Bool.eq_iff_iff,isTrieS_iff,isTrieW_iff]
end Go.Proofs.YtadpmgdmiaoniaaGreatDoor.Q
namespace Go.Proofs.YtadpmgdmiaoniaaGreatDoor.Q
open Go.RowKit Go.Proofs.YtadpmgdmiaoniaaGreatDoorW.PrintWords Go.Proofs.YtadpmgdmiaoniaaGreatDoorW.PrintLast
theorem trie_cases (l:List IN):isTrieW l=false∨∃ ws,VW ws∧l=trieW ws∧isTrieW l=true:=by
  cases h:isTrieW l with
  | false=>exact .inl rfl
  | true=>obtain ⟨ws,hv,e⟩:=(isTrieW_iff l).1 h;exact .inr ⟨ws,hv,e,rfl⟩
theorem specT (l:List IN) {b:Bool} (h:isTrieW l=b):Ev (fun k=>spec_l2Trie.f k l) b:=by rw [← h,← trie_same];exact trieS_ev l
theorem implT (l:List IN) {b:Bool} (h:isTrieW l=b):Ev (fun k=>impl_isTrie.f k l) b:=h ▸ isTrie_ev l
theorem trie_le {ws:List ByteArray} (h:VW ws):(trieW ws).length≤481:=by
  have h2:=prefW_le ws (fun w hw=>(h.ok w hw).1)
  have h3:=h.len
  rw [trieW_length]
  omega
theorem specWords {ws:List ByteArray} (h:VW ws):Ev (fun k=>spec_l2Words.f k (trieW ws)) ws:=by
  have:=wordsS_ev (trieW ws) (by have:=trie_le h;omega)
  rwa [wordsS_trie h] at this
theorem implWords {ws:List ByteArray} (h:VW ws):Ev (fun k=>impl_Trie_words.f k (trieW ws)) ws:=by
  have:=words_ev (trieW ws) _ (prefixesW_trie h)
  rwa [wordsW_trie h.ss] at this
theorem wprev (n:Nat) (h:n≤4611686018427387904):wrap64 ((n:Int) - 1)=(n:Int) - 1:=by unfold wrap64;omega
end Go.Proofs.YtadpmgdmiaoniaaGreatDoor.Q
namespace Go.Proofs.YtadpmgdmiaoniaaGreatDoor.Q
open Go.RowKit Go.Sort Go.Shelf Go.Proofs.YtadpmgdmiaoniaaGreatDoorW.PrintWords Go.Proofs.YtadpmgdmiaoniaaGreatDoorW.PrintLast Go.Proofs.YtadpmgdmiaoniaaGreatDoorW.PrintMore
set_option linter.unusedVariables false
set_option linter.unusedSimpArgs false
def NoHit (l:List ByteArray) (p:ByteArray→Bool) (m:Nat):Prop:=∀ j,j<m→p (rdOf ByteArray.empty l (j:Int))=false
def Hit (l:List ByteArray) (p:ByteArray→Bool) (i:Int):Prop:=(i=-1∧NoHit l p l.length)∨∃ m:Nat,i=(m:Int)∧m<l.length∧p (rdOf ByteArray.empty l (m:Int))=true∧NoHit l p m
theorem any_noHit {l:List ByteArray} {p:ByteArray→Bool} (h:NoHit l p l.length):l.any p=false:=by
 rw [List.any_eq_false]
 intro x hx
 obtain ⟨j,hj,rfl⟩:=List.getElem_of_mem hx
 have:=h j hj
 simp [rdOf,hj] at this
 simp [this]
theorem any_ofHit {l:List ByteArray} {p:ByteArray→Bool} {m:Nat} (hm:m<l.length) (h:p (rdOf ByteArray.empty l (m:Int))=true):l.any p=true:=by
 rw [List.any_eq_true]
 refine ⟨l[m],List.getElem_mem hm,?_⟩
 simpa [rdOf,hm] using h
theorem Hit.any {l:List ByteArray} {p:ByteArray→Bool} {i:Int} (h:Hit l p i):decide (0≤i)=l.any p:=by
 rcases h with ⟨rfl,h⟩|⟨m,rfl,hm,h,_⟩
 ·rw [any_noHit h];rfl
 ·rw [any_ofHit hm h];simp
end Go.Proofs.YtadpmgdmiaoniaaGreatDoor.Q
namespace Go.Proofs.YtadpmgdmiaoniaaGreatDoor.Q
open Go.RowKit Go.Sort Go.Shelf Go.Proofs.YtadpmgdmiaoniaaGreatDoorW.PrintWords Go.Proofs.YtadpmgdmiaoniaaGreatDoorW.PrintLast Go.Proofs.YtadpmgdmiaoniaaGreatDoorW.PrintMore
set_option linter.unusedVariables false
def wordsV (l:List IN):List ByteArray:=match prefixesW l with
  | some ps=>wordsW l ps
  | none=>[]
theorem wordsV_trie {ws:List ByteArray} (h:VW ws):wordsV (trieW ws)=ws:=by
 unfold wordsV
 rw [prefixesW_trie h]
 exact wordsW_trie h.ss
theorem trie_split (l:List IN):isTrieW l=false∨∃ ws,VW ws∧l=trieW ws∧isTrieW l=true∧wordsV l=ws:=by
 rcases trie_cases l with h|⟨ws,hv,rfl,ht⟩
 ·exact .inl h
 ·exact .inr ⟨ws,hv,rfl,ht,wordsV_trie hv⟩
theorem box_at {w:World} {g t:Nat} {v:Value} (h:w.heap[g]?=some (.cells #[v] t (0,0))):w.cell? ⟨g,0,none⟩=some v:=box_cell h
theorem bsz1 {w w2:World} {o1:Obj} (h:Below (w.heap.size+1) (w.alloc o1) w2):w.heap.size+1≤w2.heap.size:=by simpa using h.size
theorem box_one (w:World) (v1:Value) (t:Nat):∀ W,Below (w.heap.size+1) (w.alloc (.cells #[v1] t)) W→W.heap[w.heap.size]?=some (.cells #[v1] t (0,0)):=fun W h=>by
 rw [h.block _ (by omega)]
 exact Go.heap_alloc_new w (.cells #[v1] t)
theorem box_two (w:World) (v1 v2:Value) (t1 t2:Nat):∀ W,Below (w.heap.size+1+1) ((w.alloc (.cells #[v1] t1)).alloc (.cells #[v2] t2)) W→W.heap[w.heap.size]?=some (.cells #[v1] t1 (0,0))∧W.heap[w.heap.size+1]?=some (.cells #[v2] t2 (0,0)):=fun W h=>by
 have h2:=Go.heap_alloc_new (w.alloc (.cells #[v1] t1)) (.cells #[v2] t2)
 rw [World.size_alloc] at h2
 have h1:((w.alloc (.cells #[v1] t1)).alloc (.cells #[v2] t2)).heap[w.heap.size]?=some (.cells #[v1] t1 (0,0)):=by
  rw [((Below.refl (w.heap.size+1) (w.alloc (.cells #[v1] t1))).alloc (by simp) (.cells #[v2] t2)).block _ (by omega)]
  exact Go.heap_alloc_new w (.cells #[v1] t1)
 exact ⟨(h.block _ (by omega)).trans h1,(h.block _ (by omega)).trans h2⟩
end Go.Proofs.YtadpmgdmiaoniaaGreatDoor.Q
namespace Go.Proofs
open Go.Shelf
def Tryz.lSortI_ren:Go.Shelf.Ren:=⟨fun|189=>49|125=>65|257=>64|128=>92|129=>93|294=>83|295=>84|296=>85|297=>86|298=>87|299=>88|216=>89|300=>90|301=>91|328=>105|329=>106|330=>107|331=>108|332=>109|215=>110|343=>117|n=>n,fun|28=>38|3=>3|46=>91|0=>0|51=>115|53=>117|4=>4|183=>109|182=>108|131=>105|5=>5|9=>9|218=>126|222=>130|228=>135|229=>136|n=>n,fun|n=>n⟩
theorem Tryz.lSortI:Go.Proofs.Lays.n189 Tryz.prog Tryz.lSortI_ren:={
  mixed:=by kernel_rfl
  f125:=Tryz.func65.trans (congrArg some (by kernel_rfl))
  f128:=Tryz.func92.trans (congrArg some (by kernel_rfl))
  f129:=Tryz.func93.trans (congrArg some (by kernel_rfl))
  f189:=Tryz.func49.trans (congrArg some (by kernel_rfl))
  f215:=Tryz.func110.trans (congrArg some (by kernel_rfl))
  f216:=Tryz.func89.trans (congrArg some (by kernel_rfl))
  f257:=Tryz.func64.trans (congrArg some (by kernel_rfl))
  f294:=Tryz.func83.trans (congrArg some (by kernel_rfl))
  f295:=Tryz.func84.trans (congrArg some (by kernel_rfl))
  f296:=Tryz.func85.trans (congrArg some (by kernel_rfl))
  f297:=Tryz.func86.trans (congrArg some (by kernel_rfl))
  f298:=Tryz.func87.trans (congrArg some (by kernel_rfl))
  f299:=Tryz.func88.trans (congrArg some (by kernel_rfl))
  f300:=Tryz.func90.trans (congrArg some (by kernel_rfl))
  f301:=Tryz.func91.trans (congrArg some (by kernel_rfl))
  f328:=Tryz.func105.trans (congrArg some (by kernel_rfl))
  f329:=Tryz.func106.trans (congrArg some (by kernel_rfl))
  f330:=Tryz.func107.trans (congrArg some (by kernel_rfl))
  f331:=Tryz.func108.trans (congrArg some (by kernel_rfl))
  f332:=Tryz.func109.trans (congrArg some (by kernel_rfl))
  f343:=Tryz.func117.trans (congrArg some (by kernel_rfl))
  t0:=Tryz.underlying0
  a0:=Tryz.isAgg0
  z0:=Tryz.sizeOf0
  v0:=Tryz.zeroValue0
  t3:=Tryz.underlying3
  a3:=Tryz.isAgg3
  z3:=Tryz.sizeOf3
  v3:=Tryz.zeroValue3
  t4:=Tryz.underlying4
  a4:=Tryz.isAgg4
  z4:=Tryz.sizeOf4
  v4:=Tryz.zeroValue4
  t5:=Tryz.underlying5
  a5:=Tryz.isAgg5
  z5:=Tryz.sizeOf5
  v5:=Tryz.zeroValue5
  t9:=Tryz.underlying9
  a9:=Tryz.isAgg9
  z9:=Tryz.sizeOf9
  v9:=Tryz.zeroValue9
  t28:=Tryz.underlying38
  a28:=Tryz.isAgg38
  z28:=Tryz.sizeOf38
  v28:=Tryz.zeroValue38
  t46:=Tryz.underlying91
  a46:=Tryz.isAgg91
  z46:=Tryz.sizeOf91
  v46:=Tryz.zeroValue91
  t51:=Tryz.underlying115
  a51:=Tryz.isAgg115
  z51:=Tryz.sizeOf115
  v51:=Tryz.zeroValue115
  t53:=Tryz.underlying117
  a53:=Tryz.isAgg117
  z53:=Tryz.sizeOf117
  v53:=Tryz.zeroValue117
  t131:=Tryz.underlying105
  a131:=Tryz.isAgg105
  z131:=Tryz.sizeOf105
  v131:=Tryz.zeroValue105
  t182:=Tryz.underlying108
  a182:=Tryz.isAgg108
  z182:=Tryz.sizeOf108
  v182:=Tryz.zeroValue108
  t183:=Tryz.underlying109
  a183:=Tryz.isAgg109
  z183:=Tryz.sizeOf109
  v183:=Tryz.zeroValue109
  t218:=Tryz.underlying126
  a218:=Tryz.isAgg126
  z218:=Tryz.sizeOf126
  v218:=Tryz.zeroValue126
  t222:=Tryz.underlying130
  a222:=Tryz.isAgg130
  z222:=Tryz.sizeOf130
  v222:=Tryz.zeroValue130
  t228:=Tryz.underlying135
  a228:=Tryz.isAgg135
  z228:=Tryz.sizeOf135
  v228:=Tryz.zeroValue135
  t229:=Tryz.underlying136
  a229:=Tryz.isAgg136
  z229:=Tryz.sizeOf136
  v229:=Tryz.zeroValue136 }
end Go.Proofs
namespace Go.Proofs.YtadpmgdmiaoniaaGreatDoor.Q
open Go.RowKit Go.Sort Go.Shelf Go.Proofs.YtadpmgdmiaoniaaGreatDoorW.PrintWords Go.Proofs.YtadpmgdmiaoniaaGreatDoorW.PrintLast Go.Proofs.YtadpmgdmiaoniaaGreatDoorW.PrintMore
set_option linter.unusedVariables false
def srtI (zs:List Int):List Int:=zs.mergeSort fun x y=>decide (x≤y)
theorem srtI_length (zs:List Int):(srtI zs).length=zs.length:=List.length_mergeSort _
theorem sort_ints (v:Value) (zs:List Int) (base:Nat) (ok:Nat→Prop) (w:World) (h:Kd.R (Kd.int .i64) 3 w base ok v zs) (hn:zs.length<4611686018427387904) :
  Calls Tryz.prog 49 #[v] w fun e w'=>e=.returned (.tuple #[])∧Kd.R (Kd.int .i64) 3 w' base ok v (srtI zs)∧w.grownBy w' v.ownBlock:=by
 have ho:=Kd.own_of_R h
 have h0:=h.1
 rcases ho.2 with ⟨rfl,hx⟩|⟨g,cap,cur,rfl,hbg,hh,h1,h2,h3,h4⟩
 ·have hz:zs=[]:=by
   have:=ho.1
   cases zs with
   | nil=>rfl
   | cons a l=>simp at hx
  subst hz
  refine (Any.slices_Sort_int_none Tryz.lSortI none 0 w).mono ?_
  rintro e w' ⟨rfl,rfl⟩
  exact ⟨rfl,by simpa [srtI] using h,⟨rfl,rfl,rfl,Nat.le_refl _,fun _ _ _=>rfl⟩⟩
 ·have hgl:g<w.heap.size:=(Array.getElem?_eq_some_iff.1 hh).1
  refine (Any.slices_Sort_int Tryz.lSortI g 0 cap zs w (holds_of_blockI hh (by rw [Nat.mul_one] at h4;exact h4)) hgl hn).mono ?_
  rintro e w' ⟨rfl,n,os,rfl⟩
  have hs:=ownsRow_sortedI (n:=n) (os:=os) (ts:=srtI zs) (srtI_length zs) hbg hh h1 h2 h3
  refine ⟨rfl,Kd.R_of_own ?_ h0,grownBy_sortedI _⟩
  rw [srtI_length]
  exact hs
end Go.Proofs.YtadpmgdmiaoniaaGreatDoor.Q
namespace Go.Proofs.YtadpmgdmiaoniaaGreatDoor.Q
open Go.RowKit Go.Sort Go.Shelf Go.Proofs.YtadpmgdmiaoniaaGreatDoorW.PrintWords Go.Proofs.YtadpmgdmiaoniaaGreatDoorW.PrintLast Go.Proofs.YtadpmgdmiaoniaaGreatDoorW.PrintMore
set_option linter.unusedVariables false
def stP (s x:ByteArray):Bool:=decide (x.size ≠ 0) && begW s x
def rowS (ws:List ByteArray) (s:ByteArray):List Int:=(ws.filter (stP s)).map fun x=>(x.size:Int)
def rowAt (ws:List ByteArray) (p:ByteArray) (j:Nat):List Int:=srtI (rowS ws (p.extract j p.size))
def standW (ws:List ByteArray) (p:ByteArray):List (List Int):=(List.range (p.size+1)).map (rowAt ws p)
theorem rowS_take (ws:List ByteArray) (s:ByteArray) (k:Nat) (h:k<ws.length):rowS (ws.take (k+1)) s=rowS (ws.take k) s ++ (if stP s (rdOf ByteArray.empty ws (k:Int)) then [((rdOf ByteArray.empty ws (k:Int)).size:Int)] else []):=by
 have e:rdOf ByteArray.empty ws (k:Int)=ws[k]:=by simp [rdOf,h]
 rw [e]
 unfold rowS
 rw [List.take_succ_eq_append_getElem h,List.filter_append,List.map_append]
 congr 1
 by_cases hs:stP s ws[k]=true
 ·rw [if_pos hs];simp [hs]
 ·rw [if_neg hs];simp [hs]
theorem rowS_length (ws:List ByteArray) (s:ByteArray):(rowS ws s).length≤ws.length:=by
 unfold rowS;rw [List.length_map];exact List.length_filter_le _ _
structure Std (G N:Nat) (ws:List ByteArray) (p:ByteArray) (W:World) (cs:List Value) (n:Nat):Prop where
 box:W.heap[G]?=some (.cells cs.toArray 38 (0,0))
 len:cs.length=N
 done:∀ j,j<n→j<N→Kd.R (Kd.int .i64) 3 W (G+1) (fun _=>True) (cs.getD j undef) (rowAt ws p j)
 rest:∀ j,n≤j→j<N→cs.getD j undef=.slice none 0 0
 apart:∀ i j k,i<j→j<n→j<N→(cs.getD j undef).ownBlock=some k→(cs.getD i undef).ownBlock ≠ some k
structure Rnd (G n:Nat) (W1:World) (cs:List Value) (W:World) (v:Value) (xs:List Int):Prop where
 keep:KeepBut W1 W G none
 box:W.heap[G]?=some (.cells (cs.set n v).toArray 38 (0,0))
 row:Kd.R (Kd.int .i64) 3 W W1.heap.size (fun _=>True) v xs
theorem Std.move {G N:Nat} {ws:List ByteArray} {p:ByteArray} {W W':World} {cs:List Value} {n:Nat} (h:Std G N ws p W cs n) (hb:Below W.heap.size W W'):Std G N ws p W' cs n :=
 ⟨(hb.block G (lt_of_heap h.box)).trans h.box,h.len,fun j h1 h2=>Kd.R_below (h.done j h1 h2) hb,h.rest,h.apart⟩
theorem Std.next {G N:Nat} {ws:List ByteArray} {p:ByteArray} {W1 W W':World} {cs:List Value} {n:Nat} {v:Value} {xs:List Int} (h:Std G N ws p W1 cs n) (hr:Rnd G n W1 cs W v xs) (hn:n<N)
  (hR:Kd.R (Kd.int .i64) 3 W' W1.heap.size (fun _=>True) v (rowAt ws p n)) (hg:W.grownBy W' v.ownBlock):Std G N ws p W' (cs.set n v) (n+1):=by
 have hG:=lt_of_heap h.box
 have hv:∀ k,v.ownBlock=some k→W1.heap.size≤k:=fun k hk=>own_base (Kd.R_own hR).choose_spec k hk
 have hs:=hr.keep.1
 refine ⟨?_,by rw [List.length_set,h.len],fun j h1 h2=>?_,fun j h1 h2=>?_,fun i j k hij h1 h2=>?_⟩
 ·rw [hg.block G (by omega) (fun e=>by have:=hv G e.symm;omega)]
  exact hr.box
 ·by_cases hj:j=n
  ·subst hj
   have e:(cs.set j v).getD j undef=v:=by simp [List.getD,h.len,hn]
   rw [e]
   exact Kd.R_lower hR (by omega)
  ·have e:(cs.set n v).getD j undef=cs.getD j undef:=by simp [List.getD,List.getElem?_set,Ne.symm hj]
   rw [e]
   have hd:=h.done j (by omega) h2
   refine Kd.R_mono (Kd.R_move (Kd.R_bound hd) fun k hk=>?_) (fun _ _=>trivial)
   have h3:=hk.2.1
   have h4:=hk.2.2.1
   rw [hg.block k (by omega) (fun e=>by have:=hv k e.symm;omega)]
   exact hr.keep.2 k h4 (by omega) (by simp)
 ·have e:(cs.set n v).getD j undef=cs.getD j undef:=by simp [List.getD,List.getElem?_set,show n ≠ j by omega]
  rw [e]
  exact h.rest j (by omega) h2
 ·have ei:(cs.set n v).getD i undef=cs.getD i undef:=by simp [List.getD,List.getElem?_set,show n ≠ i by omega]
  rw [ei]
  by_cases hj:j=n
  ·subst hj
   have e:(cs.set j v).getD j undef=v:=by simp [List.getD,h.len,hn]
   rw [e]
   intro hk hk2
   have h3:=hv k hk
   have h4:=(Kd.R_bound (h.done i hij (by omega))).1 k hk2
   omega
  ·have e:(cs.set n v).getD j undef=cs.getD j undef:=by simp [List.getD,List.getElem?_set,Ne.symm hj]
   rw [e]
   exact h.apart i j k hij (by omega) h2
theorem Rnd.start {G n N:Nat} {ws:List ByteArray} {p:ByteArray} {W1:World} {cs:List Value} (h:Std G N ws p W1 cs n) (hn:n<N):Rnd G n W1 cs W1 (.slice none 0 0) []:=by
 refine ⟨KeepBut.refl _ _ _,?_,Kd.R_nil _ _ _ _ _⟩
 have e:cs.set n (.slice none 0 0)=cs:=by
  apply List.ext_getElem (by simp)
  intro j h1 h2
  by_cases hj:n=j
  ·subst hj
   have:=h.rest n (Nat.le_refl _) hn
   simp [List.getD,h2] at this
   simp [this]
  ·simp [List.getElem_set,hj]
 rw [e]
 exact h.box
theorem Rnd.snoc {G n:Nat} {W1 W Wa:World} {cs:List Value} {v v1:Value} {xs:List Int} {x:Int} (hn:n<cs.length) (hG:G<W1.heap.size) (h:Rnd G n W1 cs W v xs)
  (hR:Kd.R (Kd.int .i64) 3 Wa W1.heap.size (fun _=>True) v1 (xs ++ [x])) (hb:Below W1.heap.size W Wa):Rnd G n W1 cs (Wa.setCell ⟨G,n,none⟩ v1) v1 (xs ++ [x]):=by
 have hs:=hb.size
 have hk:=h.keep.1
 refine ⟨⟨by simp;omega,fun k h1 h2 h3=>?_⟩,?_,?_⟩
 ·rw [Below.heap_setCell _ _ _ _ (by simpa using h2),hb.block k h1]
  exact h.keep.2 k h1 h2 h3
 ·have e:=blk_put ((hb.block G hG).trans h.box) n v1 rfl
  rw [e]
  simp [List.set_set]
 ·exact Kd.R_mono (Kd.R_move (Kd.R_bound hR) fun k hk=>Below.heap_setCell _ _ _ _ (by have:=hk.2.1;simp;omega)) (fun _ _=>trivial)
theorem Std.all {G:Nat} {ws:List ByteArray} {p:ByteArray} {W:World} {cs:List Value} {base:Nat} (h:Std G (p.size+1) ws p W cs (p.size+1)) (hbase:base≤G) (hp:p.size≤60):Kd.S (Kd.slice 3 (Kd.int .i64)) 38 W base (fun _=>True) (.slice (some ⟨G,0,none⟩) (p.size+1) (p.size+1)) (standW ws p):=by
 have hl:(standW ws p).zipIdx.length=p.size+1:=by simp [standW]
 have hc:=h.len
 refine ⟨fun k=>cs.findIdx fun v=>decide (v.ownBlock=some k),fun _ _=>trivial,cs,?_,?_⟩
 ·rw [hl]
  exact ⟨by show cs.length=(p.size+1) * 1;omega,.inr ⟨G,p.size+1,cs.toArray,rfl,hbase,h.box,Nat.le_refl _,by unfold maxLen;omega,by show cs.toArray.size=(p.size+1) * 1;simp [hc],by show cs.toArray.toList.take ((p.size+1) * 1)=cs;rw [Nat.mul_one,← hc];simp⟩⟩
 ·refine ⟨by show cs.length=_ * 1;rw [hl,hc,Nat.mul_one],fun j q hj=>?_⟩
  have hjl:j<p.size+1:=by
   have:=(List.getElem?_eq_some_iff.1 hj).1
   omega
  have e:(rowAt ws p j,j)=q:=by
   rw [List.getElem?_zipIdx,Nat.zero_add] at hj
   simpa [standW,hjl] using hj
  subst e
  have hd:=h.done j hjl hjl
  have hcj:j<cs.length:=by rw [hc];exact hjl
  have e:cs.getD j undef=cs[j]:=by rw [List.getD_eq_getElem?_getD,List.getElem?_eq_getElem hcj];rfl
  refine ⟨cs.getD j undef,?_,?_⟩
  ·show (cs.drop (j * 1)).take 1=_
   rw [Nat.mul_one,List.drop_eq_getElem_cons hcj,e]
   rfl
  ·refine Kd.R_lower (Kd.R_of_own (Kd.own_of_R hd) fun k hk=>⟨⟨trivial,fun e2=>?_⟩,?_⟩) (by omega)
   ·have h3:=(Kd.R_bound hd).1 k hk
    have e3:G=k:=by simpa [Value.ownBlock] using e2.symm
    omega
   ·show (cs.findIdx fun v=>decide (v.ownBlock=some k))=j
    rw [List.findIdx_eq hcj]
    refine ⟨by rw [← e];exact decide_eq_true hk,fun i hi=>?_⟩
    have hci:i<cs.length:=by omega
    have ei:cs.getD i undef=cs[i]:=by rw [List.getD_eq_getElem?_getD,List.getElem?_eq_getElem hci];rfl
    rw [← ei]
    exact decide_eq_false (h.apart i j k hi hjl hjl hk)
theorem hasPrefix_calls (s x:ByteArray) (h1:x.size≤s.size) (h2:(s.extract 0 x.size).toList=x.toList) (w:World):Calls Tryz.prog 48 #[.string s,.string x] w fun e w'=>e=.returned (.bool true)∧w=w':=by
 have h3:((s.extract 0 x.size).toList == x.toList)=true:=beq_iff_eq.2 h2
 go_enter Tryz.func48,Tryz.ntmps48
 go_wp2
 go_ret
 exact ⟨rfl,rfl⟩
def impl_Trie_standing.f (l0_0:List IN) (a1:ByteArray):Option (List (List Int)):=if isTrieW l0_0 && decide (a1.size≤60) then some (standW (wordsV l0_0) a1) else none
theorem makeS (n:Nat) (hn:n≤60):∀ W:World,(Instr.makeSlice 54 (.int .i64 ((n:Int)+1)) (.int .i64 ((n:Int)+1))).run Tryz.prog W=.ok (.slice (some ⟨W.heap.size,0,none⟩) (n+1) (n+1)) (W.alloc (.cells (madeCells #[.slice none 0 0] (n+1)) 38)):=fun W=>by
 have h:=print_make_of (P:=Tryz.prog) 54 38 (.slice none 0 0) 24 Tryz.underlying54 (by kernel_rfl) rfl (by decide) (n+1) (by omega) W
 rwa [Int.natCast_add] at h
theorem std_start (w:World) (ws:List ByteArray) (p:ByteArray) (N:Nat):Std w.heap.size N ws p (w.alloc (.cells (madeCells #[.slice none 0 0] N) 38)) (List.replicate N (.slice none 0 0)) 0:=by
 refine ⟨?_,by simp,fun j h=>absurd h (Nat.not_lt_zero _),fun j _ h=>by simp [List.getD,h],fun _ j _ _ h=>absurd h (Nat.not_lt_zero j)⟩
 have h:=World.alloc_heap_new w (.cells (madeCells #[.slice none 0 0] N) 38)
 have e:madeCells #[Value.slice none 0 0] N=(List.replicate N (Value.slice none 0 0)).toArray:=by
  apply Array.ext
  ·simp [size_madeCells]
  ·intro i h1 h2
   simp [madeCells,Nat.mod_one]
 rw [e] at h ⊢
 exact h
theorem box_n {W:World} {G n t:Nat} {cs:List Value} {v:Value} (h:W.heap[G]?=some (.cells (cs.set n v).toArray t (0,0))) (hn:n<cs.length):W.cell? ⟨G,n,none⟩=some v∧W.frozen? ⟨G,n,none⟩=false :=
 ⟨by simp [World.cell?,h,hn],by simp [World.frozen?,h]⟩
theorem st_cases (s x:ByteArray):(stP s x=false∧x.toList=[])∨(stP s x=false∧¬ x.toList=[]∧decide (x.size≤s.size)=false)∨(stP s x=false∧¬ x.toList=[]∧x.size≤s.size∧((s.extract 0 x.size).toList == x.toList)=false)∨(stP s x=true∧¬ x.toList=[]∧x.size≤s.size∧((s.extract 0 x.size).toList == x.toList)=true):=by
 by_cases h0:x.toList=[]
 ·have:x.size=0:=size0_of (by simp [h0])
  exact .inl ⟨by simp [stP,this],h0⟩
 ·have hz:x.size ≠ 0:=fun e=>by
   have:=(lw_inj (by have:=lw_length x;rw [e] at this;rw [List.length_eq_zero_iff.1 this];rfl):x=ByteArray.empty)
   subst this
   exact absurd h0 (by simp)
  by_cases h1:x.size≤s.size
  ·cases h2:((s.extract 0 x.size).toList == x.toList) with
   | false=>exact .inr (.inr (.inl ⟨by have h3:=beq_eq_false_iff_ne.1 h2;simp [stP,begW,h3],h0,h1,rfl⟩))
   | true=>exact .inr (.inr (.inr ⟨by have h3:=beq_iff_eq.1 h2;simp [stP,begW,h3,h1,hz],h0,h1,rfl⟩))
  ·exact .inr (.inl ⟨by simp [stP,begW,h1],h0,decide_eq_false h1⟩)
theorem words_far {G B c:Nat} {A:Option Addr} {ok:Nat→Prop} {w1 W:World} {ws:List ByteArray} (h:Kd.R Kd.string 9 w1 B ok (.slice A ws.length c) ws) (hG:G<B) (hk:KeepBut w1 W G none):Kd.C Kd.string W A ws.length ws :=
 Kd.C_keep ByteArray.empty (Kd.R_reads' h).2.2 hk (Kd.far_own h (fun e=>by have:=own_base (Kd.R_own h).choose_spec G e.symm;omega))
set_option maxHeartbeats 2000000 in
set_option maxRecDepth 100000 in
theorem impl_Trie_standing.calls (A0_0:Option Addr) (c0_0:Nat) (l0_0:List IN) (a1:ByteArray) (r:List (List Int)) (w:World) (hr0_0:Kd.C k70 w A0_0 l0_0.length l0_0) (hc0_0:l0_0.length≤c0_0) (h:impl_Trie_standing.f l0_0 a1=some r) :
  Calls Tryz.prog 31 #[.agg #[.slice A0_0 l0_0.length c0_0],.string a1] w fun e w'=>∃ v0_:Value,e=.returned v0_∧Kd.S (Kd.slice 3 (Kd.int .i64)) 38 w' w.heap.size (fun _=>True) v0_ r∧Below w.heap.size w w':=by
 unfold impl_Trie_standing.f at h
 rcases trie_split l0_0 with ht0|⟨ws,hva,rfl,ht0,hwa⟩
 ·rw [ht0] at h;simp at h
 rw [ht0,hwa,Bool.true_and] at h
 by_cases hp:a1.size≤60
 case neg=>simp [hp] at h
 simp only [hp,decide_true,if_true] at h
 obtain rfl:=Option.some.inj h
 clear h ht0 hwa
 obtain ⟨k2,hk2⟩:=(implWords hva).ex
 have HK2:=Zz.mk hk2
 have h40:=hva.len
 have HR0:=Zz.mk hr0_0
 have HC0:=Zz.mk hc0_0
 have hmk:=makeS a1.size hp
 have HX:=Zz.mk (box_one w (.slice A0_0 (trieW ws).length c0_0) 31)
 have HS0:=Zz.mk (std_start (w.alloc (.cells #[.slice A0_0 (trieW ws).length c0_0] 31)) ws a1 (a1.size+1))
 have HB0:=Zz.mk ((Below.refl w.heap.size w).alloc (Nat.le_refl _) (.cells #[.slice A0_0 (trieW ws).length c0_0] 31))
 clear hva hk2 hr0_0 hc0_0
 go_enter Tryz.func31,Tryz.ntmps31
 go_wp2
 clear hmk
 go_loopw [15] (fun i wr=>∃ (n:Nat) (cs:List Value),n≤a1.size+1∧i=.int .i64 n∧Zz (Std (w.heap.size+1) (a1.size+1) ws a1 wr cs n)∧Zz (Below (w.heap.size+1) (w.alloc (.cells #[.slice A0_0 (trieW ws).length c0_0] 31)) wr)) (fun i _=>a1.size+1 - (intOf i).toNat)
 case atStart=>exact ⟨0,_,Nat.zero_le _,rfl,⟨by simpa using HS0.out⟩,⟨(Below.refl _ _).alloc (by simp) _⟩⟩
 case round =>
  clear HS0
  obtain ⟨n,cs,hn,rfl,HS,HQ⟩:=hrel
  by_cases hlt:n<a1.size+1
  ·have hx:=box_at (HX.out wr HQ.out)
   have hQs:w.heap.size+1≤wr.heap.size:=bsz1 HQ.out
   go_wp2_with (go_at_call 47;refine (impl_Trie_words.calls k2 A0_0 c0_0 _ ws wr (Kd.C_below HR0.out (HB0.out.trans (HQ.out.mono (by omega)))) HC0.out HK2.out).mono ?_;rintro e w1 ⟨v1,rfl,hr,hb⟩;obtain ⟨A1,c1,rfl⟩:=Kd.R_slice hr;have HR1:=Zz.mk hr;have HS1:=Zz.mk (HS.out.move hb);have HQ1:=Zz.mk (HQ.out.trans (hb.mono (by omega)));have HW1:=Zz.mk hb.size;clear hr hb)
   have hGs:w.heap.size+1<wr.heap.size:=lt_of_heap HS.out.box
   go_loopw [21] (fun i wr2=>∃ (k:Nat) (v:Value),k≤ws.length∧i=.int .i64 k∧Zz (Rnd (w.heap.size+1) n w1 cs wr2 v (rowS (ws.take k) (a1.extract n a1.size)))∧Zz (Below (w.heap.size+1) (w.alloc (.cells #[.slice A0_0 (trieW ws).length c0_0] 31)) wr2)) (fun i _=>ws.length - (intOf i).toNat)
   case atStart=>exact ⟨0,_,Nat.zero_le _,rfl,⟨Rnd.start HS1.out hlt⟩,HQ1⟩
   case round =>
    obtain ⟨k,v,hk,rfl,HRd,HQ2⟩:=hrel
    by_cases hlt2:k<ws.length
    ·obtain ⟨ad,e0,hx1⟩:=Kd.at_string (words_far HR1.out hGs HRd.out.keep) (k:Int) (by omega) (by omega)
     cases e0
     simp only [Int.toNat_natCast] at hx1
     have hnext:=rowS_take ws (a1.extract n a1.size) k hlt2
     obtain ⟨wd,hwd⟩:∃ wd,wd=rdOf ByteArray.empty ws (k:Int):=⟨_,rfl⟩
     rw [← hwd] at hx1 hnext
     clear hwd
     have HN:=Zz.mk hnext
     clear hnext
     have hes:(a1.extract n a1.size).size=a1.size - n:=by rw [ByteArray.size_extract];omega
     rcases st_cases (a1.extract n a1.size) wd with ⟨hst,h0⟩|⟨hst,h0,h1⟩|⟨hst,h0,h1,h2⟩|⟨hst,h0,h1,h2⟩
     ·rw [hst] at HN
      clear hst
      go_wp2
      exact ⟨⟨k+1,v,by omega,by go_num,⟨by rw [HN.out];simpa using HRd.out⟩,HQ2⟩,by simp [intOf];omega⟩
     ·rw [hst] at HN
      rw [hes] at h1
      clear hst hes
      go_wp2
      exact ⟨⟨k+1,v,by omega,by go_num,⟨by rw [HN.out];simpa using HRd.out⟩,HQ2⟩,by simp [intOf];omega⟩
     ·rw [hst] at HN
      rw [hes] at h1
      clear hes
      have h3:(!wd.toList.isEmpty && ((a1.extract n a1.size).extract 0 wd.size).toList == wd.toList)=false:=by rw [h2,Bool.and_false]
      clear hst h2
      go_wp2
      exact ⟨⟨k+1,v,by omega,by go_num,⟨by rw [HN.out];simpa using HRd.out⟩,HQ2⟩,by simp [intOf];omega⟩
     ·rw [hst] at HN
      rw [hes] at h1
      clear hes
      have h3:=beq_iff_eq.1 h2
      have h4:(!wd.toList.isEmpty)=true:=by simpa using h0
      have h5:wd.size≤(a1.extract n a1.size).size:=by rw [ByteArray.size_extract];omega
      clear hst h2
      have hcl:n<cs.length:=by have:=HS1.out.len;omega
      obtain ⟨Av,cv,rfl⟩:=Kd.R_slice HRd.out.row
      obtain ⟨hgc,hgf⟩:=box_n HRd.out.box hcl
      have hrl:=rowS_length (ws.take k) (a1.extract n a1.size)
      rw [List.length_take] at hrl
      go_wp2_with (first|(go_at_call 48;refine (hasPrefix_calls _ _ h5 h3 _).mono ?_;rintro e w2 ⟨rfl,rfl⟩)|(at_builtin;refine Kd.R_append (Kd.int .i64) (w0:=wr) w1.heap.size rfl _ _ 38 3 (.int .i64 0) 8 rfl Tryz.underlying38 (by kernel_rfl) rfl (by decide) (by omega) (.slice Av (rowS (ws.take k) (a1.extract n a1.size)).length cv) (rowS (ws.take k) (a1.extract n a1.size)) (wd.size:Int) [.int .i64 wd.size] (fun _=>True) (fun _=>False) rfl ?aX rfl (fun _ hk=>hk.elim) (fun _ _=>trivial) HRd.out.row (Below.refl _ _) HRd.out.keep.1 ?aL ?_;(case aX=>simp [Act.eval]);(case aL=>omega);intro v1 wx hRx hBelx hgx hatx;have HRX:=Zz.mk hRx;have HBX:=Zz.mk hBelx;have hcx:=box_n ((hBelx.block _ (lt_of_heap HS1.out.box)).trans HRd.out.box) hcl;have hcx1:=hcx.1;have hcx2:=hcx.2;obtain ⟨Ax,cx,ex⟩:=Kd.R_slice hRx;subst ex;clear hRx hBelx hgx hatx hcx))
      have hw1s:=HQ1.out.size
      rw [show (rowS (ws.take k) (a1.extract n a1.size) ++ [(wd.size:Int)]).length=(rowS (ws.take k) (a1.extract n a1.size)).length+1 by simp] at HRX
      exact ⟨⟨k+1,_,by omega,by go_num,⟨by rw [HN.out,if_pos trivial];exact Rnd.snoc hcl (lt_of_heap HS1.out.box) HRd.out HRX.out HBX.out⟩,⟨(HQ2.out.trans (HBX.out.mono (by have:=lt_of_heap HS1.out.box;omega))).setCell (by simp) _⟩⟩,by simp [intOf];omega⟩
    ·obtain rfl:k=ws.length:=by omega
     rw [List.take_length] at HRd
     have hcl:n<cs.length:=by have:=HS1.out.len;omega
     obtain ⟨Av,cv,rfl⟩:=Kd.R_slice HRd.out.row
     obtain ⟨hgc,hgf⟩:=box_n HRd.out.box hcl
     have hrl:=rowS_length ws (a1.extract n a1.size)
     have HSI:=Zz.mk (sort_ints (.slice Av (rowS ws (a1.extract n a1.size)).length cv) _ _ _ wr HRd.out.row (by omega))
     clear hrl
     go_wp2_with (go_at_call 49;refine HSI.out.mono ?_;rintro e w3 ⟨rfl,hR3,hg3⟩;have HR3:=Zz.mk hR3;have HG3:=Zz.mk hg3;clear hR3 hg3)
     exact ⟨⟨n+1,_,by omega,by go_num,⟨Std.next HS1.out HRd.out hlt HR3.out HG3.out⟩,⟨HQ2.out.grown HG3.out (bsz1 HQ2.out) (fun g e=>by have:=own_base (Kd.R_own HR3.out).choose_spec g e;have:=HQ1.out.size;have:=lt_of_heap HS1.out.box;omega)⟩⟩,by simp [intOf];omega⟩
  ·obtain rfl:n=a1.size+1:=by omega
   go_wp2
   go_ret
   exact ⟨_,rfl,Std.all HS.out (by omega) hp,HB0.out.trans (HQ.out.mono (by omega))⟩
end Go.Proofs.YtadpmgdmiaoniaaGreatDoor.Q
namespace Go.Proofs.YtadpmgdmiaoniaaGreatDoor.Q
open Go.RowKit Go.Proofs.YtadpmgdmiaoniaaGreatDoorW.PrintWords Go.Proofs.YtadpmgdmiaoniaaGreatDoorW.PrintLast
theorem srtI_perm (zs:List Int):(srtI zs).Perm zs:=List.mergeSort_perm zs _
theorem st_size {s x:ByteArray} (h:stP s x=true):x.size≤s.size∧(s.extract 0 x.size).toList=x.toList∧x.size ≠ 0:=by
  simp only [stP,begW,Bool.and_eq_true,decide_eq_true_eq] at h
  exact ⟨h.2.1,h.2.2,h.1⟩
theorem rdI_nat (l:List Int) {i:Nat} (h:i<l.length):rd l (i:Int)=l[i]:=by simp [rd,h]
theorem rowAt_length {ws:List ByteArray} (hv:VW ws) (p:ByteArray) (a:Nat):(rowAt ws p a).length≤40:=by
  unfold rowAt
  rw [srtI_length]
  exact Nat.le_trans (rowS_length _ _) hv.len
theorem rowAt_mem {ws:List ByteArray} {p:ByteArray} {a:Nat} {n:Int} (h:n ∈ rowAt ws p a):1≤n∧n+a≤p.size:=by
  obtain ⟨x,hx,rfl⟩:=List.mem_map.1 ((srtI_perm _).mem_iff.1 h)
  obtain ⟨h1,h2,h3⟩:=st_size (List.mem_filter.1 hx).2
  rw [ByteArray.size_extract] at h1
  omega
theorem standW_length (ws:List ByteArray) (p:ByteArray):(standW ws p).length=p.size+1:=by simp [standW]
theorem stand_at (ws:List ByteArray) (p:ByteArray) (a:Nat) (h:a≤p.size):rd_L9 (standW ws p) (a:Int)=rowAt ws p a:=by
  simp [rd_L9,standW,Nat.lt_succ_of_le h]
end Go.Proofs.YtadpmgdmiaoniaaGreatDoor.Q
namespace Go.Proofs.YtadpmgdmiaoniaaGreatDoor.Q
open Go.RowKit Go.Sort Go.Shelf Go.Proofs.YtadpmgdmiaoniaaGreatDoorW.PrintWords Go.Proofs.YtadpmgdmiaoniaaGreatDoorW.PrintLast Go.Proofs.YtadpmgdmiaoniaaGreatDoorW.PrintMore
set_option linter.unusedVariables false
def splitN (a:Nat) (mb:List Int × List Int) (n:Int):List Int × List Int :=
  if rd mb.1 ((a:Int)+n)=0 then mb
  else (mb.1.set a (wrap64 (rd mb.1 (a:Int)+rd mb.1 ((a:Int)+n))),
    if rd mb.1 (a:Int)=0∨wrap64 (rd mb.2 ((a:Int)+n)+1)<rd mb.2 (a:Int) then mb.2.set a (wrap64 (rd mb.2 ((a:Int)+n)+1)) else mb.2)
def splitsF (ws:List ByteArray) (p:ByteArray):Nat→List Int × List Int→List Int × List Int
  | 0,mb=>mb
  | a+1,mb=>splitsF ws p a ((rowAt ws p a).foldl (splitN a) mb)
def splits0 (p:ByteArray):List Int × List Int:=((List.replicate (p.size+1) 0).set p.size 1,List.replicate (p.size+1) 0)
def splitsW (ws:List ByteArray) (p:ByteArray):List Int × List Int:=splitsF ws p p.size (splits0 p)
theorem splitN_len (a:Nat) (mb:List Int × List Int) (n:Int):(splitN a mb n).1.length=mb.1.length∧(splitN a mb n).2.length=mb.2.length:=by
 unfold splitN
 split
 ·exact ⟨rfl,rfl⟩
 ·refine ⟨by simp,?_⟩
  simp only
  split <;> simp
theorem foldN_len (a:Nat):∀ (row:List Int) (mb:List Int × List Int),(row.foldl (splitN a) mb).1.length=mb.1.length∧(row.foldl (splitN a) mb).2.length=mb.2.length
 | [],mb=>⟨rfl,rfl⟩
 | n :: t,mb=>by
  have h:=splitN_len a mb n
  have ih:=foldN_len a t (splitN a mb n)
  exact ⟨ih.1.trans h.1,ih.2.trans h.2⟩
theorem fold_take (a:Nat) (row:List Int) (mb:List Int × List Int) (k:Nat) (h:k<row.length):(row.take (k+1)).foldl (splitN a) mb=splitN a ((row.take k).foldl (splitN a) mb) row[k]:=by
 rw [List.take_succ_eq_append_getElem h,List.foldl_append]
 rfl
structure Two (w1 W:World) (gm gb L:Nat) (mb:List Int × List Int):Prop where
 below:Below w1.heap.size w1 W
 many:W.heap[gm]?=some (.cells (nums .i64 mb.1).toArray 3 (0,0))
 best:W.heap[gb]?=some (.cells (nums .i64 mb.2).toArray 3 (0,0))
 lm:mb.1.length=L
 lb:mb.2.length=L
 ne:gm ≠ gb
 gem:w1.heap.size≤gm
 geb:w1.heap.size≤gb
theorem row_cell {W:World} {g:Nat} {m:List Int} (h:W.heap[g]?=some (.cells (nums .i64 m).toArray 3 (0,0))) (j:Nat) (hj:j<m.length):W.cell? ⟨g,j,none⟩=some (.int .i64 (rd m (j:Int)))∧W.frozen? ⟨g,j,none⟩=false:=by
 refine ⟨?_,by simp [World.frozen?,h]⟩
 rw [rdI_nat m hj]
 simp [World.cell?,h,nums,hj]
theorem row_put {W:World} {g:Nat} {m:List Int} (h:W.heap[g]?=some (.cells (nums .i64 m).toArray 3 (0,0))) (j:Nat) (x:Int):(W.setCell ⟨g,j,none⟩ (.int .i64 x)).heap[g]?=some (.cells (nums .i64 (m.set j x)).toArray 3 (0,0)) :=
 blk_put h j _ (by simp [nums,List.map_set])
theorem Two.setMany {w1 W:World} {gm gb L:Nat} {m b:List Int} (h:Two w1 W gm gb L (m,b)) (j:Nat) (x:Int):Two w1 (W.setCell ⟨gm,j,none⟩ (.int .i64 x)) gm gb L (m.set j x,b) :=
 ⟨h.below.setCell h.gem _,row_put h.many j x,by rw [Below.heap_setCell _ _ _ _ (fun e=>h.ne e.symm)];exact h.best,by simpa using h.lm,h.lb,h.ne,h.gem,h.geb⟩
theorem Two.setBest {w1 W:World} {gm gb L:Nat} {m b:List Int} (h:Two w1 W gm gb L (m,b)) (j:Nat) (x:Int):Two w1 (W.setCell ⟨gb,j,none⟩ (.int .i64 x)) gm gb L (m,b.set j x) :=
 ⟨h.below.setCell h.geb _,by rw [Below.heap_setCell _ _ _ _ h.ne];exact h.many,row_put h.best j x,h.lm,by simpa using h.lb,h.ne,h.gem,h.geb⟩
theorem made_nums (n:Nat):madeCells #[Value.int .i64 0] n=(nums .i64 (List.replicate n 0)).toArray:=by
 apply Array.ext
 ·simp [size_madeCells,nums]
 ·intro i h1 h2
  simp [madeCells,nums,Nat.mod_one]
theorem made_two (w1:World) (n:Nat):((w1.alloc (.cells (madeCells #[.int .i64 0] n) 3)).alloc (.cells (madeCells #[.int .i64 0] n) 3)).heap[w1.heap.size]?=some (.cells (nums .i64 (List.replicate n 0)).toArray 3 (0,0))∧((w1.alloc (.cells (madeCells #[.int .i64 0] n) 3)).alloc (.cells (madeCells #[.int .i64 0] n) 3)).heap[w1.heap.size+1]?=some (.cells (nums .i64 (List.replicate n 0)).toArray 3 (0,0)):=by
 have h:=World.alloc_heap_new (w1.alloc (.cells (madeCells #[.int .i64 0] n) 3)) (.cells (madeCells #[.int .i64 0] n) 3)
 rw [World.size_alloc] at h
 refine ⟨?_,by rw [← made_nums];exact h⟩
 rw [((Below.refl (w1.heap.size+1) (w1.alloc (.cells (madeCells #[.int .i64 0] n) 3))).alloc (by simp) (.cells (madeCells #[.int .i64 0] n) 3)).block _ (by omega),← made_nums]
 exact World.alloc_heap_new w1 _
theorem Two.start1 (w1:World) (n:Nat):Two w1 ((w1.alloc (.cells (madeCells #[.int .i64 0] n) 3)).alloc (.cells (madeCells #[.int .i64 0] n) 3)) w1.heap.size (w1.heap.size+1) n (List.replicate n 0,List.replicate n 0) :=
 ⟨((Below.refl w1.heap.size w1).alloc (Nat.le_refl _) _).alloc (by simp) _,(made_two w1 n).1,(made_two w1 n).2,by simp,by simp,by omega,Nat.le_refl _,by omega⟩
theorem Two.start2 (w1:World) (n:Nat):Two w1 ((w1.alloc (.cells (madeCells #[.int .i64 0] n) 3)).alloc (.cells (madeCells #[.int .i64 0] n) 3)) (w1.heap.size+1) w1.heap.size n (List.replicate n 0,List.replicate n 0) :=
 ⟨((Below.refl w1.heap.size w1).alloc (Nat.le_refl _) _).alloc (by simp) _,(made_two w1 n).2,(made_two w1 n).1,by simp,by simp,by omega,by omega,Nat.le_refl _⟩
theorem Two.drew {w1 W:World} {gm gb L:Nat} {mb:List Int × List Int} (h:Two w1 W gm gb L mb):Two w1 W.drew gm gb L mb:=⟨h.below.drew,h.many,h.best,h.lm,h.lb,h.ne,h.gem,h.geb⟩
theorem own_nums {W:World} {g base n:Nat} {m:List Int} {ok:Nat→Prop} (h:W.heap[g]?=some (.cells (nums .i64 m).toArray 3 (0,0))) (hb:base≤g) (hn:m.length=n) (hs:n≤1000) (hok:ok g):Kd.R (Kd.int .i64) 3 W base ok (.slice (some ⟨g,0,none⟩) n n) m:=by
 subst hn
 refine Kd.R_of_own ⟨by simp [encs],.inr ⟨g,m.length,_,rfl,hb,h,Nat.le_refl _,by unfold maxLen;omega,by simp [nums],by rw [Nat.mul_one];exact List.take_of_length_le (by simp [nums])⟩⟩ (fun k hk=>?_)
 have e:g=k:=by simpa [Value.ownBlock] using hk
 exact e ▸ hok
theorem by_key {G P:Prop} (h:G→P) (g:G):P:=h g
def impl_Trie_splits.f (l0_0:List IN) (a1:ByteArray):Option (List Int × List Int):=if isTrieW l0_0 && decide (a1.size≤60) then some (splitsW (wordsV l0_0) a1) else none
theorem makeI (n:Nat) (hn:n≤60):∀ W:World,(Instr.makeSlice 38 (.int .i64 ((n:Int)+1)) (.int .i64 ((n:Int)+1))).run Tryz.prog W=.ok (.slice (some ⟨W.heap.size,0,none⟩) (n+1) (n+1)) (W.alloc (.cells (madeCells #[.int .i64 0] (n+1)) 3)):=fun W=>by
 have h:=print_make_of (P:=Tryz.prog) 38 3 (.int .i64 0) 8 Tryz.underlying38 (by kernel_rfl) rfl (by decide) (n+1) (by omega) W
 rwa [Int.natCast_add] at h
set_option maxHeartbeats 2000000 in
set_option maxRecDepth 100000 in
theorem impl_Trie_splits.calls (A0_0:Option Addr) (c0_0:Nat) (l0_0:List IN) (a1:ByteArray) (r1 r2:List Int) (w:World) (hr0_0:Kd.C k70 w A0_0 l0_0.length l0_0) (hc0_0:l0_0.length≤c0_0) (h:impl_Trie_splits.f l0_0 a1=some (r1,r2)) :
  Calls Tryz.prog 36 #[.agg #[.slice A0_0 l0_0.length c0_0],.string a1] w fun e w'=>∃ v0_ v1_:Value,e=.returned (.tuple #[v0_,v1_])∧Kd.R (Kd.int .i64) 3 w' w.heap.size (fun k_=>some k_ ≠ (v1_:Value).ownBlock) v0_ r1∧Kd.R (Kd.int .i64) 3 w' w.heap.size (fun k_=>some k_ ≠ (v0_:Value).ownBlock) v1_ r2∧Below w.heap.size w w':=by
 unfold impl_Trie_splits.f at h
 rcases trie_split l0_0 with ht0|⟨ws,hva,rfl,ht0,hwa⟩
 ·rw [ht0] at h;simp at h
 by_cases hp:a1.size≤60
 case neg=>simp [hp] at h
 have hsf:impl_Trie_standing.f (trieW ws) a1=some (standW ws a1):=by unfold impl_Trie_standing.f;rw [ht0,hwa];simp [hp]
 rw [ht0,hwa,Bool.true_and] at h
 simp only [hp,decide_true,if_true] at h
 have h:=Option.some.inj h
 have HE:=Zz.mk h
 clear h ht0 hwa
 have HR0:=Zz.mk hr0_0
 have HC0:=Zz.mk hc0_0
 have HSF:=Zz.mk hsf
 have hmk:=makeI a1.size hp
 have hwr:IntKind.i64.wrap ((a1.size:Int)+1)=(a1.size:Int)+1:=by rw [i64_w];unfold wrap64;omega
 have HX:=Zz.mk (box_one w (.slice A0_0 (trieW ws).length c0_0) 31)
 have HB0:=Zz.mk ((Below.refl w.heap.size w).alloc (Nat.le_refl _) (.cells #[.slice A0_0 (trieW ws).length c0_0] 31))
 have hsl:=standW_length ws a1
 have hrl:∀ j,(rowAt ws a1 j).length≤40:=fun j=>rowAt_length hva a1 j
 have HRL:=Zz.mk hrl
 clear hrl hva hr0_0 hc0_0 hsf
 go_enter Tryz.func36,Tryz.ntmps36
 go_wp2_with (go_at_call 31;refine (impl_Trie_standing.calls A0_0 c0_0 _ a1 _ _ (Kd.C_below HR0.out HB0.out) HC0.out HSF.out).mono ?_;rintro e w1 ⟨v1,rfl,hr,hb⟩;obtain ⟨A1,c1,rfl⟩:=Kd.S_slice hr;have HS1:=Zz.mk hr;have HB1:=Zz.mk (show Below (w.heap.size+1) _ w1 by simpa using hb);clear hr hb)
 apply by_key
 ·intro key
  go_region_held3 (fun _=>True) (trivial) (fail)
  ·obtain ⟨gm,gb,hgm,hgb,HT⟩:∃ gm gb,gm=w1.heap.size∧gb=w1.heap.size+1∧Zz (Two w1 ((w1.alloc (.cells (madeCells #[.int .i64 0] (a1.size+1)) 3)).alloc (.cells (madeCells #[.int .i64 0] (a1.size+1)) 3)).drew gm gb (a1.size+1) (List.replicate (a1.size+1) 0,List.replicate (a1.size+1) 0)):=⟨_,_,rfl,rfl,⟨(Two.start1 w1 (a1.size+1)).drew⟩⟩
   rw [← hgb,← hgm]
   clear hgm hgb
   generalize ((w1.alloc (.cells (madeCells #[.int .i64 0] (a1.size+1)) 3)).alloc (.cells (madeCells #[.int .i64 0] (a1.size+1)) 3)).drew=W0 at HT ⊢
   revert gm gb W0 HT
   exact key
  ·obtain ⟨gm,gb,hgm,hgb,HT⟩:∃ gm gb,gm=w1.heap.size+1∧gb=w1.heap.size∧Zz (Two w1 ((w1.alloc (.cells (madeCells #[.int .i64 0] (a1.size+1)) 3)).alloc (.cells (madeCells #[.int .i64 0] (a1.size+1)) 3)).drew gm gb (a1.size+1) (List.replicate (a1.size+1) 0,List.replicate (a1.size+1) 0)):=⟨_,_,rfl,rfl,⟨(Two.start2 w1 (a1.size+1)).drew⟩⟩
   rw [← hgm,← hgb]
   clear hgm hgb
   generalize ((w1.alloc (.cells (madeCells #[.int .i64 0] (a1.size+1)) 3)).alloc (.cells (madeCells #[.int .i64 0] (a1.size+1)) 3)).drew=W0 at HT ⊢
   revert gm gb W0 HT
   exact key
 intro gm gb W0 HT
 obtain ⟨hc1,hf1⟩:=row_cell HT.out.many a1.size (by have:=HT.out.lm;omega)
 have HT1:=Zz.mk (HT.out.setMany a1.size 1)
 clear hmk hwr
 go_wp2
 clear hc1 hf1
 go_loopw [9] (fun v wr=>∃ (a:Nat) (m b:List Int),a≤a1.size∧v=.int .i64 ((a:Int) - 1)∧Zz (Two w1 wr gm gb (a1.size+1) (m,b))∧Zz (splitsF ws a1 a (m,b)=splitsW ws a1)) (fun v _=>(intOf v+1).toNat)
 case atStart=>exact ⟨a1.size,_,_,Nat.le_refl _,rfl,HT1,⟨rfl⟩⟩
 case round =>
  clear HT HT1
  obtain ⟨a,m,b,ha,rfl,HT,HF⟩:=hrel
  cases a with
  | zero =>
   go_wp2
   go_ret2
   have hE:=HF.out.trans HE.out
   injection hE with hE1 hE2
   subst hE1;subst hE2
   have h0:=HT.out.gem
   have h1:=HT.out.geb
   have h2:=HB1.out.size
   rw [World.size_alloc] at h2
   exact ⟨_,_,rfl,own_nums HT.out.many (by omega) HT.out.lm (by omega) (fun e=>HT.out.ne (by simpa [Value.ownBlock] using e)),own_nums HT.out.best (by omega) HT.out.lb (by omega) (fun e=>HT.out.ne (by simpa [Value.ownBlock] using e.symm)),HB0.out.trans ((HB1.out.mono (by omega)).trans (HT.out.below.mono (by omega)))⟩
  | succ a =>
   have ea:((a+1:Nat):Int) - 1=(a:Int):=by omega
   rw [ea]
   obtain ⟨ad,A2,c2,e1,hcell,hle,hC⟩:=at_L9 (Kd.S_reads' HS1.out).2.2 (a:Int) (by omega) (by omega)
   cases e1
   rw [stand_at ws a1 a (by omega)] at hcell hle hC
   simp only [Int.toNat_natCast] at hcell
   have hx:=pw_cell_below HT.out.below hcell
   have HC:=Zz.mk hC
   have HF2:Zz (splitsF ws a1 a ((rowAt ws a1 a).foldl (splitN a) (m,b))=splitsW ws a1):=HF
   clear hcell hC
   go_wp2
   obtain ⟨row,hrow⟩:∃ row,row=rowAt ws a1 a:=⟨_,rfl⟩
   rw [← hrow] at HC HF2 hle ⊢
   have hrl:row.length≤40:=hrow ▸ HRL.out a
   have hmem:∀ n ∈ row,1≤n∧n+a≤a1.size:=fun n hn=>rowAt_mem (hrow ▸ hn)
   have HM:=Zz.mk hmem
   clear hrow hx hmem ea
   have hl1:=HT.out.lm
   have hl2:=HT.out.lb
   go_loopw [39] (fun i wr=>∃ (k:Nat) (m2 b2:List Int),k≤row.length∧i=.int .i64 k∧Zz (Two w1 wr gm gb (a1.size+1) (m2,b2))∧Zz ((m2,b2)=(row.take k).foldl (splitN a) (m,b))) (fun i _=>row.length - (intOf i).toNat)
   case atStart=>exact ⟨0,m,b,Nat.zero_le _,rfl,HT,⟨rfl⟩⟩
   case round =>
    clear HT
    obtain ⟨k,m2,b2,hk,rfl,HT,HG⟩:=hrel
    by_cases hlt:k<row.length
    ·obtain ⟨ad2,e2,hy⟩:=Kd.at_int (Kd.C_below HC.out HT.out.below) (k:Int) (by omega) (by omega)
     cases e2
     have hnx:=fold_take a row (m,b) k hlt
     rw [← HG.out] at hnx
     have hmk:=HM.out _ (List.getElem_mem hlt)
     have hrd:=rdI_nat row hlt
     rw [hrd] at hy
     simp only [Int.toNat_natCast] at hy
     obtain ⟨q,hq⟩:∃ q:Nat,row[k]=(q:Int):=⟨row[k].toNat,by omega⟩
     rw [hq] at hy hnx hmk
     clear hq hrd
     have hl3:=HT.out.lm
     have hl4:=HT.out.lb
     simp only at hl3 hl4
     obtain ⟨hc1,hf1⟩:=row_cell HT.out.many (a+q) (by simp only;omega)
     obtain ⟨hc2,hf2⟩:=row_cell HT.out.many a (by simp only;omega)
     obtain ⟨hc3,hf3⟩:=row_cell HT.out.best (a+q) (by simp only;omega)
     obtain ⟨hc4,hf4⟩:=row_cell HT.out.best a (by simp only;omega)
     simp only at hc1 hc2 hc3 hc4
     have hwr:IntKind.i64.wrap ((a:Int)+(q:Int))=((a+q:Nat):Int):=by rw [i64_w];unfold wrap64;omega
     have HN:=Zz.mk hnx
     clear hnx
     by_cases h0:rd m2 ((a:Int)+(q:Int))=0
     ·have h0b:=beq_iff_eq.2 h0
      go_wp2
      exact ⟨⟨k+1,m2,b2,by omega,by go_num,HT,⟨by rw [HN.out,splitN,if_pos h0]⟩⟩,by simp [intOf];omega⟩
     ·have h0b:=beq_eq_false_iff_ne.2 h0
      by_cases h1:rd m2 (a:Int)=0
      ·have h1b:=beq_iff_eq.2 h1
       go_wp2
       go_region
       go_wp2
       have HT5:=Zz.mk ((HT.out.setBest a (wrap64 (rd b2 ((a:Int)+(q:Int))+1))).drew)
       generalize (wr.setCell ⟨gb,a,none⟩ (.int .i64 (wrap64 (rd b2 ((a:Int)+(q:Int))+1)))).drew=W5 at HT5 ⊢
       obtain ⟨hd1,he1⟩:=row_cell HT5.out.many (a+q) (by simp only;omega)
       obtain ⟨hd2,he2⟩:=row_cell HT5.out.many a (by simp only;omega)
       simp only at hd1 hd2
       clear hc1 hc2 hc3 hc4 hf1 hf2 hf3 hf4
       have HT6:=Zz.mk ((HT5.out.setMany a (wrap64 (rd m2 ((a:Int)+(q:Int))))).drew)
       clear HT HT5
       go_region
       go_wp2
       exact ⟨⟨k+1,_,_,by omega,by go_num,HT6,⟨by rw [HN.out,splitN,if_neg h0,if_pos (.inl h1)];simp only;rw [h1,Int.zero_add]⟩⟩,by simp [intOf];omega⟩
      ·have h1b:=beq_eq_false_iff_ne.2 h1
       by_cases h2:wrap64 (rd b2 ((a:Int)+(q:Int))+1)<rd b2 (a:Int)
       ·have h2b:=decide_eq_true h2
        go_wp2
        go_region
        go_wp2
        have HT5:=Zz.mk ((HT.out.setBest a (wrap64 (rd b2 ((a:Int)+(q:Int))+1))).drew)
        generalize (wr.setCell ⟨gb,a,none⟩ (.int .i64 (wrap64 (rd b2 ((a:Int)+(q:Int))+1)))).drew=W5 at HT5 ⊢
        obtain ⟨hd1,he1⟩:=row_cell HT5.out.many (a+q) (by simp only;omega)
        obtain ⟨hd2,he2⟩:=row_cell HT5.out.many a (by simp only;omega)
        simp only at hd1 hd2
        clear hc1 hc2 hc3 hc4 hf1 hf2 hf3 hf4
        have HT6:=Zz.mk ((HT5.out.setMany a (wrap64 (rd m2 (a:Int)+rd m2 ((a:Int)+(q:Int))))).drew)
        clear HT HT5
        go_region
        go_wp2
        exact ⟨⟨k+1,_,_,by omega,by go_num,HT6,⟨by rw [HN.out,splitN,if_neg h0,if_pos (.inr h2)]⟩⟩,by simp [intOf];omega⟩
       ·have h2b:=decide_eq_false h2
        go_wp2
        go_region
        go_wp2
        have HT5:=Zz.mk HT.out.drew
        generalize wr.drew=W5 at HT5 ⊢
        obtain ⟨hd1,he1⟩:=row_cell HT5.out.many (a+q) (by simp only;omega)
        obtain ⟨hd2,he2⟩:=row_cell HT5.out.many a (by simp only;omega)
        simp only at hd1 hd2
        clear hc1 hc2 hc3 hc4 hf1 hf2 hf3 hf4
        have HT6:=Zz.mk ((HT5.out.setMany a (wrap64 (rd m2 (a:Int)+rd m2 ((a:Int)+(q:Int))))).drew)
        clear HT HT5
        go_region
        go_wp2
        exact ⟨⟨k+1,_,_,by omega,by go_num,HT6,⟨by rw [HN.out,splitN,if_neg h0,if_neg (fun h=>h.elim h1 (fun h'=>Int.not_lt.2 h2 h'))]⟩⟩,by simp [intOf];omega⟩
    ·obtain rfl:k=row.length:=by omega
     rw [List.take_length] at HG
     go_wp2
     exact ⟨⟨a,m2,b2,by omega,by go_num,HT,⟨by rw [HG.out];exact HF2.out⟩⟩,by simp [intOf]⟩
end Go.Proofs.YtadpmgdmiaoniaaGreatDoor.Q
namespace Go.Proofs.YtadpmgdmiaoniaaGreatDoor.Q
open Go.RowKit Go.Proofs.YtadpmgdmiaoniaaGreatDoorW.PrintWords Go.Proofs.YtadpmgdmiaoniaaGreatDoorW.PrintLast
def lwD (b:ByteArray):List UInt8:=b.data.toList
theorem lwD_length (b:ByteArray):(lwD b).length=b.size:=by unfold lwD;rw [Array.length_toList];rfl
def lettersD (w:ByteArray):Prop:=∀ x ∈ lwD w,97≤x.toNat∧x.toNat≤122
def okWordD (w:ByteArray):Prop:=w.size≤12∧lettersD w
theorem bt_natD (a:ByteArray) (i:Nat) (h:i<(lwD a).length):bt a (i:Int)=(((lwD a)[i]'h).toNat:Int):=by
  have h2:i<a.size:=by rw [← lwD_length];exact h
  have:((i:Int)).toNat<a.size:=by simpa using h2
  rw [← bt_at a (i:Int) this]
  rfl
instance (w:ByteArray):Decidable (lettersD w):=inferInstanceAs (Decidable (∀ x ∈ lwD w,97≤x.toNat∧x.toNat≤122))
instance (w:ByteArray):Decidable (okWordD w):=inferInstanceAs (Decidable (w.size≤12∧lettersD w))
theorem lettersB_D (w:ByteArray):lettersB w=decide (lettersD w):=by
  rw [Bool.eq_iff_iff,decide_eq_true_eq]
  unfold lettersB lettersD lwD
  rw [List.all_eq_true]
  exact forall_congr' fun x=>imp_congr Iff.rfl decide_eq_true_iff
end Go.Proofs.YtadpmgdmiaoniaaGreatDoor.Q
namespace Go.Proofs.YtadpmgdmiaoniaaGreatDoor.Q
open Go.RowKit Go.Proofs.YtadpmgdmiaoniaaGreatDoorW.PrintWords Go.Proofs.YtadpmgdmiaoniaaGreatDoorW.PrintLast
def okPass (a:ByteArray):Prop:=a.size≤60∧lettersD a
instance (w:ByteArray):Decidable (okPass w):=inferInstanceAs (Decidable (w.size≤60∧lettersD w))
theorem text_l0 (a:ByteArray):∀ (n i:Nat),i+n=min a.size 61→(∀ x ∈ (lwD a).take i,97≤x.toNat∧x.toNat≤122)→Ev (fun k=>spec_l3Text.l0 k a (i:Int)) (decide (okPass a)):=by
  intro n
  induction n with
  | zero =>
    intro i h hx
    refine Ev.succ ?_
    simp only [spec_l3Text.l0]
    have e:decide ((a.size:Int)≤60)=decide (okPass a):=by
      refine decide_eq_decide.2 ⟨fun hs=>⟨by omega,?_⟩,fun h=>by have:=h.1;omega⟩
      rw [List.take_of_length_le (by rw [lwD_length];omega)] at hx
      exact hx
    by_cases hs:a.size≤60
    · refine Ev.neg (by omega) (Ev.succ ?_)
      simp only [spec_l3Text.j1]
      refine Ev.neg (by decide) ?_
      rw [e]
      exact Ev.pure _
    · have e1:i=61:=by omega
      by_cases h13:61<a.size
      · refine Ev.pos (by omega) (Ev.succ ?_)
        simp only [spec_l3Text.j1]
        refine Ev.neg (by simp;omega) ?_
        rw [e]
        exact Ev.pure _
      · refine Ev.neg (by omega) (Ev.succ ?_)
        simp only [spec_l3Text.j1]
        refine Ev.neg (by decide) ?_
        rw [e]
        exact Ev.pure _
  | succ n ih =>
    intro i h hx
    refine Ev.succ ?_
    simp only [spec_l3Text.l0]
    have hi:i<(lwD a).length:=by rw [lwD_length];omega
    refine Ev.pos (by omega) (Ev.succ ?_)
    simp only [spec_l3Text.j1,bt_natD a i hi]
    refine Ev.pos (by simp;omega) (Ev.pos (by omega) (Ev.pos (by omega) ?_))
    have hnot:¬ (97≤((lwD a)[i]).toNat∧((lwD a)[i]).toNat≤122)→decide (okPass a)=false:=fun hq=>decide_eq_false (fun ho=>hq (ho.2 _ (List.getElem_mem hi)))
    by_cases h1:97≤((lwD a)[i]).toNat
    · refine Ev.neg (by omega) ?_
      by_cases h2:((lwD a)[i]).toNat≤122
      · refine Ev.neg (by omega) ?_
        rw [wnext i (by omega)]
        refine ih (i+1) (by omega) (fun x hm=>?_)
        rw [List.take_succ_eq_append_getElem hi] at hm
        rcases List.mem_append.1 hm with hm|hm
        · exact hx x hm
        · rw [List.mem_singleton.1 hm];exact ⟨h1,h2⟩
      · rw [hnot (by omega)]
        exact Ev.pos (by omega) (Ev.pure _)
    · rw [hnot (by omega)]
      exact Ev.pos (by omega) (Ev.pure _)
theorem text_ev (a:ByteArray):Ev (fun k=>spec_l3Text.f k a) (decide (okPass a)):=by
  unfold spec_l3Text.f
  exact text_l0 a (min a.size 61) 0 (by omega) (fun x hx=>by cases hx)
theorem pass_ev (l:List IN) (a:ByteArray):Ev (fun k=>impl_arePassage.f k l a) (isTrieW l && decide (okPass a)):=by
  unfold impl_arePassage.f impl_areLetters.f
  by_cases h60:a.size≤60
  · refine Ev.pos (by omega) (Ev.bindc (by rw [if_pos (by omega),lettersB_D]) ?_)
    by_cases hl:lettersD a
    · rw [decide_eq_true (show okPass a from ⟨h60,hl⟩),Bool.and_true]
      exact Ev.pos (decide_eq_true hl) (Ev.bind (implT l rfl) (Ev.pure _))
    · rw [decide_eq_false (fun h:okPass a=>hl h.2),Bool.and_false]
      exact Ev.neg (by simpa using hl) (Ev.pure _)
  · rw [decide_eq_false (fun h:okPass a=>h60 h.1),Bool.and_false]
    exact Ev.neg (by omega) (Ev.pure _)
theorem good_ev (l:List IN) (a:ByteArray):Ev (fun k=>spec_l3Good.f k l a) (isTrieW l && decide (okPass a)):=by
  unfold spec_l3Good.f
  refine Ev.bind (specT l rfl) ?_
  cases h:isTrieW l with
  | false=>exact Ev.neg (by decide) (Ev.pure _)
  | true=>exact Ev.pos rfl (Ev.bind (text_ev a) (Ev.pure _))
def putI (l:List Int) (n:Int):List Int:=l.takeWhile (fun x=>decide (x<n)) ++ n :: l.dropWhile (fun x=>decide (x<n))
theorem putI_l0 (l:List Int) (n:Int) (hl:l.length≤1000000) (hn:n ∉ l):∀ (m i:Nat),i+m=(l.takeWhile fun x=>decide (x<n)).length→Ev (fun k=>spec_l1Put.l0 k l n (i:Int)) (putI l n):=by
  have hle:(l.takeWhile fun x=>decide (x<n)).length≤l.length:=(List.takeWhile_prefix _).length_le
  have htd:=List.takeWhile_append_dropWhile (p:=fun x=>decide (x<n)) (l:=l)
  intro m
  induction m with
  | zero =>
    intro i h
    have ht:l.take i=l.takeWhile fun x=>decide (x<n):=by
      conv=>lhs;rw [← htd]
      rw [List.take_append_of_le_length (by omega),List.take_of_length_le (by omega)]
    have hd:l.drop i=l.dropWhile fun x=>decide (x<n):=by
      conv=>lhs;rw [← htd]
      rw [List.drop_append_of_le_length (by omega),List.drop_of_length_le (by omega),List.nil_append]
    have hput:putI l n=(([] ++ l.take i) ++ [n]) ++ l.drop i:=by rw [ht,hd];simp [putI]
    rw [hput]
    have hsz:(l.take i).length≤l.length:=by rw [List.length_take];omega
    have hsd:(l.drop i).length≤l.length:=by rw [List.length_drop];omega
    refine Ev.succ ?_
    simp only [spec_l1Put.l0,Option.bind_some,Int.toNat_natCast]
    by_cases hi:i<l.length
    · have hge:¬ l[i]<n:=by
        have h0:(l.dropWhile fun x=>decide (x<n)) ≠ []:=by rw [← hd];intro e;have:=congrArg List.length e;rw [List.length_drop] at this;simp at this;omega
        have h1:=List.head_dropWhile_not (p:=fun x=>decide (x<n)) h0
        have h2:(l.dropWhile fun x=>decide (x<n)).head h0=l[i]:=by
          have:(l.drop i).head (by rw [hd];exact h0)=l[i]:=by rw [List.head_drop]
          rw [← this]
          congr 1
          rw [hd]
        rw [h2] at h1
        simpa using h1
      have hne:¬ l[i]=n:=fun e=>hn (e ▸ List.getElem_mem hi)
      have e:rd l (i:Int)=l[i]:=by simp [rd,hi]
      rw [e]
      refine Ev.pos (by omega) (Ev.pos (by omega) (Ev.neg hge (Ev.neg hne (Ev.pos (by omega) (Ev.pos (by simp;omega) (Ev.pos (by simp;omega) (Ev.pos (by simp;omega) (Ev.pure _))))))))
    · refine Ev.neg (by omega) (Ev.pos (by omega) (Ev.pos (by omega) (Ev.pos (by simp;omega) (Ev.pos (by simp;omega) (Ev.pos (by simp;omega) (Ev.pure _))))))
  | succ m ih =>
    intro i h
    have hi:i<(l.takeWhile fun x=>decide (x<n)).length:=by omega
    have hil:i<l.length:=by omega
    have hlt:l[i]<n:=by
      have h1:(l.takeWhile fun x=>decide (x<n))[i]=l[i]:=by
        have hp:=List.takeWhile_prefix (fun x=>decide (x<n)) (l:=l)
        exact hp.getElem hi
      have h2:=List.all_takeWhile (p:=fun x=>decide (x<n)) (l:=l)
      rw [List.all_eq_true] at h2
      have h3:=h2 _ (List.getElem_mem hi)
      rw [h1] at h3
      simpa using h3
    have e:rd l (i:Int)=l[i]:=by simp [rd,hil]
    refine Ev.succ ?_
    simp only [spec_l1Put.l0,e]
    rw [wnext i (by omega)]
    exact Ev.pos (by omega) (Ev.pos (by omega) (Ev.pos hlt (ih (i+1) (by omega))))
theorem putI_ev (l:List Int) (n:Int) (hl:l.length≤1000000) (hn:n ∉ l):Ev (fun k=>spec_l1Put.f k l n) (putI l n):=putI_l0 l n hl hn (l.takeWhile fun x=>decide (x<n)).length 0 (by omega)
theorem srtI_pw (zs:List Int):(srtI zs).Pairwise (·≤·):=(List.pairwise_mergeSort (le:=fun x y:Int=>decide (x≤y)) (fun a b c h1 h2=>by simp at *;omega) (fun a b=>by simp;omega) zs).imp (fun h=>by simpa using h)
theorem putI_perm (l:List Int) (n:Int):(putI l n).Perm (l ++ [n]):=by
  have htd:=List.takeWhile_append_dropWhile (p:=fun x=>decide (x<n)) (l:=l)
  conv=>rhs;rw [← htd]
  unfold putI
  rw [List.append_assoc]
  exact List.Perm.append_left _ (List.perm_append_comm (l₁:=[n]))
theorem putI_pw (l:List Int) (n:Int) (h:l.Pairwise (·≤·)):(putI l n).Pairwise (·≤·):=by
  have htd:=List.takeWhile_append_dropWhile (p:=fun x=>decide (x<n)) (l:=l)
  rw [← htd] at h
  obtain ⟨h1,h2,h3⟩:=List.pairwise_append.1 h
  have ht:∀ x ∈ l.takeWhile fun x=>decide (x<n),x<n:=fun x hx=>by
    have:=List.all_takeWhile (p:=fun x=>decide (x<n)) (l:=l)
    rw [List.all_eq_true] at this
    simpa using this x hx
  have hd:∀ x ∈ l.dropWhile fun x=>decide (x<n),n≤x:=fun x hx=>by
    have h0:(l.dropWhile fun x=>decide (x<n)) ≠ []:=List.ne_nil_of_mem hx
    have h4:=List.head_dropWhile_not (p:=fun x=>decide (x<n)) h0
    have h5:n≤(l.dropWhile fun x=>decide (x<n)).head h0:=by simpa using h4
    obtain ⟨y,ys,hy⟩:=List.exists_cons_of_ne_nil h0
    simp only [hy,List.head_cons] at h5
    rw [hy] at h2 hx
    rcases List.mem_cons.1 hx with rfl|hx
    · exact h5
    · have:=(List.pairwise_cons.1 h2).1 x hx
      omega
  unfold putI
  refine List.pairwise_append.2 ⟨h1,List.pairwise_cons.2 ⟨hd,h2⟩,fun a ha b hb=>?_⟩
  have:=ht a ha
  rcases List.mem_cons.1 hb with rfl|hb
  · omega
  · have:=hd b hb
    omega
theorem put_srt (xs:List Int) (n:Int):putI (srtI xs) n=srtI (xs ++ [n]) :=
  List.Perm.eq_of_pairwise (fun a b _ _ h1 h2=>by omega) (putI_pw _ _ (srtI_pw xs)) (srtI_pw _) ((putI_perm _ _).trans (((srtI_perm xs).append_right [n]).trans (srtI_perm _).symm))
theorem st_eq {s x y:ByteArray} (h1:stP s x=true) (h2:stP s y=true) (h:x.size=y.size):x=y:=by
  have a:=(st_size h1).2.1
  have b:=(st_size h2).2.1
  rw [h] at a
  exact (tl_eq x y).1 (a.symm.trans b)
theorem rowS_new {ws:List ByteArray} (hv:VW ws) (s:ByteArray) (i:Nat) (hi:i<ws.length) (h:stP s ws[i]=true):((ws[i].size:Nat):Int) ∉ rowS (ws.take i) s:=fun hm=>by
  obtain ⟨x,hx,he⟩:=List.mem_map.1 hm
  obtain ⟨hxm,hxs⟩:=List.mem_filter.1 hx
  have e:=st_eq hxs h (by omega)
  subst e
  obtain ⟨j,hj,hjx⟩:=List.getElem_of_mem hxm
  rw [List.getElem_take] at hjx
  have hjl:j<i:=by rw [List.length_take] at hj;omega
  have:=List.pairwise_iff_getElem.1 hv.ss j i (by omega) hi hjl
  rw [hjx] at this
  exact List.lt_irrefl _ this
theorem ext_mid (p:ByteArray) (a n:Nat):(p.extract a p.size).extract 0 n=p.extract a (a+n):=lw_inj (by
  have e:∀ (b:ByteArray) (i j:Nat),lw (b.extract i j)=(lw b).extract i j:=fun b i j=>by unfold lw;rw [ByteArray.data_extract,Array.toList_extract]
  rw [e,e,e,List.extract_eq_take_drop,List.extract_eq_take_drop,List.extract_eq_take_drop]
  simp only [Nat.sub_zero,List.drop_zero]
  rw [List.take_take,← lw_length]
  by_cases h:n≤(lw p).length - a
  · rw [Nat.min_eq_left h,Nat.add_sub_cancel_left]
  · rw [Nat.min_eq_right (by omega),Nat.add_sub_cancel_left,List.take_of_length_le (by rw [List.length_drop];omega),List.take_of_length_le (by rw [List.length_drop];omega)])
theorem stands_eq (p x:ByteArray) (a:Nat) (ha:a≤p.size) (hp:p.size≤60) (hx:x.size≤12) (h0:¬ x.toList=[]):spec_l3Stands.f p x (a:Int)=some (stP (p.extract a p.size) x):=by
  have hz:x.size ≠ 0:=fun e=>by
    have:=(lw_inj (by have:=lw_length x;rw [e] at this;rw [List.length_eq_zero_iff.1 this];rfl):x=ByteArray.empty)
    subst this
    exact absurd h0 (by simp)
  have hs:(p.extract a p.size).size=p.size - a:=by rw [ByteArray.size_extract];omega
  have ew:wrap64 ((a:Int)+(x.size:Int))=((a+x.size:Nat):Int):=by unfold wrap64;omega
  unfold spec_l3Stands.f
  rw [ew]
  by_cases h:a+x.size≤p.size
  · rw [if_pos (by omega),if_pos (by omega),if_pos (by omega)]
    simp only [Int.toNat_natCast]
    refine congrArg some ?_
    unfold stP begW
    rw [decide_eq_true hz,Bool.true_and,hs,decide_eq_true (show x.size≤p.size - a by omega),Bool.true_and,ext_mid]
    rw [Bool.eq_iff_iff,beq_iff_eq,decide_eq_true_eq]
  · rw [if_neg (by omega)]
    refine congrArg some ?_
    unfold stP begW
    rw [hs,decide_eq_false (show ¬ x.size≤p.size - a by omega),Bool.false_and,Bool.and_false]
theorem matches_l0 {ws:List ByteArray} (hv:VW ws) (p:ByteArray) (a:Nat) (ha:a≤p.size) (hp:p.size≤60):∀ (n i:Nat),i+n=ws.length→Ev (fun k=>spec_l3Matches.l0 k ws p (a:Int) (srtI (rowS (ws.take i) (p.extract a p.size))) (i:Int)) (rowAt ws p a):=by
  have h40:=hv.len
  intro n
  induction n with
  | zero =>
    intro i h
    refine Ev.succ ?_
    simp only [spec_l3Matches.l0]
    rw [List.take_of_length_le (by omega)]
    exact Ev.neg (by omega) (Ev.pure _)
  | succ n ih =>
    intro i h
    have hi:i<ws.length:=by omega
    have hr:=rowS_take ws (p.extract a p.size) i hi
    have e:rdOf ByteArray.empty ws (i:Int)=ws[i]:=by simp [rdOf,hi]
    rw [e] at hr
    have hl:=rowS_length (ws.take i) (p.extract a p.size)
    rw [List.length_take] at hl
    have hz:=(hv.ok _ (List.getElem_mem hi)).1
    have hih:=ih (i+1) (by omega)
    rw [hr] at hih
    refine Ev.succ ?_
    simp only [spec_l3Matches.l0,e]
    rw [wnext i (by omega)]
    refine Ev.pos (by omega) (Ev.pos (by omega) ?_)
    by_cases h0:ws[i].toList=[]
    · have hst:stP (p.extract a p.size) ws[i]=false:=by
        have:ws[i].size=0:=size0_of (by simp [h0])
        simp [stP,this]
      rw [hst] at hih
      exact Ev.pos h0 (by simpa using hih)
    · refine Ev.neg h0 (Ev.bindc (stands_eq p ws[i] a ha hp hz h0) ?_)
      cases hst:stP (p.extract a p.size) ws[i] with
      | false =>
        rw [hst] at hih
        exact Ev.neg (by decide) (by simpa using hih)
      | true =>
        rw [hst,if_pos rfl] at hih
        refine Ev.pos rfl (Ev.bind (putI_ev _ _ (by rw [srtI_length];omega) (fun hm=>rowS_new hv _ i hi hst ((srtI_perm _).mem_iff.1 hm))) ?_)
        rw [put_srt]
        exact hih
theorem matches_ev {ws:List ByteArray} (hv:VW ws) (p:ByteArray) (a:Nat) (ha:a≤p.size) (hp:p.size≤60):Ev (fun k=>spec_l3Matches.f k ws p (a:Int)) (rowAt ws p a):=by
  unfold spec_l3Matches.f
  have h:=matches_l0 hv p a ha hp ws.length 0 (by omega)
  rw [show srtI (rowS (ws.take 0) (p.extract a p.size))=[] by simp [rowS,srtI]] at h
  exact h
end Go.Proofs.YtadpmgdmiaoniaaGreatDoor.Q
namespace Go.Proofs.YtadpmgdmiaoniaaGreatDoor.Q
open Go.RowKit Go.Proofs.YtadpmgdmiaoniaaGreatDoorW.PrintWords Go.Proofs.YtadpmgdmiaoniaaGreatDoorW.PrintLast
set_option linter.unusedVariables false
theorem rowAt_lt {ws:List ByteArray} (hv:VW ws) (p:ByteArray) (a:Nat):(rowAt ws p a).Pairwise (·<·):=by
  have hnd:(rowS ws (p.extract a p.size)).Nodup:=by
    unfold rowS
    have h1:(ws.filter fun x=>stP (p.extract a p.size) x).Pairwise (fun x y=>x ≠ y):=(hv.ss.imp (fun {x y} h e=>by subst e;exact List.lt_irrefl _ h)).filter _
    refine List.Pairwise.map _ (fun x y h=>h) ?_
    refine List.Pairwise.imp_of_mem (fun {x y} hx hy hne=>?_) h1
    intro e
    exact hne (st_eq (List.mem_filter.1 hx).2 (List.mem_filter.1 hy).2 (by omega))
  have hp:=srtI_pw (rowS ws (p.extract a p.size))
  have hn:(srtI (rowS ws (p.extract a p.size))).Nodup:=(srtI_perm _).nodup_iff.2 hnd
  exact (hp.and hn).imp (fun {x y} h=>by have:=h.1;have:=h.2;omega)
theorem rd_set (m:List Int) (a:Nat) (x:Int) (j:Nat) (ha:a<m.length):rd (m.set a x) (j:Int)=if j=a then x else rd m (j:Int):=by
  simp only [rd,Int.toNat_natCast,List.getD_eq_getElem?_getD,List.getElem?_set]
  by_cases h:j=a
  · subst h;simp [ha]
  · rw [if_neg (fun e=>h e.symm),if_neg h]
def fewN (a:Nat) (m:List Int) (n:Int):List Int :=
  if 0≤rd m ((a:Int)+n)∧(rd m (a:Int)<0∨wrap64 (rd m ((a:Int)+n)+1)<rd m (a:Int)) then m.set a (wrap64 (rd m ((a:Int)+n)+1)) else m
def fewF (ws:List ByteArray) (p:ByteArray):Nat→List Int→List Int
  | 0,m=>m
  | a+1,m=>fewF ws p a ((rowAt ws p a).foldl (fewN a) (m.set a (-1)))
def Of (f m b:List Int) (j:Nat):Prop:=rd f (j:Int)=if rd m (j:Int)=0 then -1 else rd b (j:Int)
def Led (row:List Int) (m b:List Int) (a:Nat) (x:Int) (n:Int):Prop:=n ∈ row∧rd m ((a:Int)+n) ≠ 0∧rd b ((a:Int)+n)=x - 1
structure Behind (ws:List ByteArray) (p:ByteArray) (m b:List Int) (j:Nat):Prop where
  m0:0≤rd m (j:Int)
  m1:rd m (j:Int)≤((2 ^ (p.size - j):Nat):Int)
  b0:rd m (j:Int) ≠ 0→0≤rd b (j:Int)∧rd b (j:Int)≤((p.size - j:Nat):Int)
  led:rd m (j:Int) ≠ 0→j<p.size→∃ n,Led (rowAt ws p j) m b j (rd b (j:Int)) n
structure Amid (ws:List ByteArray) (p:ByteArray) (a:Nat) (f m b:List Int) (q:Nat):Prop where
  lm:m.length=p.size+1
  lb:b.length=p.size+1
  lf:f.length=p.size+1
  of:∀ j,a≤j→j≤p.size→Of f m b j
  behind:∀ j,a<j→j≤p.size→Behind ws p m b j
  low:∀ j,j<a→rd m (j:Int)=0
  m0:0≤rd m (a:Int)
  m1:rd m (a:Int)+((2 ^ (p.size - a - q):Nat):Int)≤((2 ^ (p.size - a):Nat):Int)
  b0:rd m (a:Int) ≠ 0→0≤rd b (a:Int)∧rd b (a:Int)≤((p.size - a:Nat):Int)
  led:rd m (a:Int) ≠ 0→∃ n,Led (rowAt ws p a) m b a (rd b (a:Int)) n
theorem pow60 {L j:Nat} (hL:L≤60):((2 ^ (L - j):Nat):Int)≤1152921504606846976:=by
  have h:2 ^ (L - j)≤2 ^ 60:=Nat.pow_le_pow_right (by omega) (by omega)
  have e:(2:Nat) ^ 60=1152921504606846976:=by decide
  omega
theorem Amid.next {ws:List ByteArray} {p:ByteArray} (hp:p.size≤60) {a:Nat} (ha:a<p.size) {f m b:List Int} {q:Nat} (h:Amid ws p a f m b q) (n:Nat) (hn:(n:Int) ∈ rowAt ws p a) (hq:q<n) (hna:n+a≤p.size) :
    Amid ws p a (fewN a f n) (splitN a (m,b) n).1 (splitN a (m,b) n).2 n:=by
  have hB:=h.behind (a+n) (by omega) (by omega)
  have hO:=h.of (a+n) (by omega) (by omega)
  have hOa:=h.of a (Nat.le_refl _) (by omega)
  have hlm:=h.lm
  have hlb:=h.lb
  have hlf:=h.lf
  have ecast:((a:Int)+(n:Int))=((a+n:Nat):Int):=by omega
  have hpow:2 ^ (p.size - a - n)+2 ^ (p.size - a - n)≤2 ^ (p.size - a - q):=by
    have h1:2 ^ (p.size - a - n+1)≤2 ^ (p.size - a - q):=Nat.pow_le_pow_right (by omega) (by omega)
    rw [Nat.pow_succ] at h1
    omega
  have hp2:=pow60 (L:=p.size) (j:=a) hp
  have hsub:p.size - (a+n)=p.size - a - n:=by omega
  have hm1:=hB.m1
  rw [hsub] at hm1
  have hm1a:=h.m1
  have hpos:0<2 ^ (p.size - a - n):=Nat.pow_pos (by omega)
  by_cases h0:rd m ((a:Int)+(n:Int))=0
  · -- no split behind it
    have e1:splitN a (m,b) n=(m,b):=by unfold splitN;rw [if_pos h0]
    have e2:fewN a f n=f:=by
      unfold fewN
      rw [ecast] at h0 ⊢
      unfold Of at hO
      rw [if_pos h0] at hO
      rw [if_neg (by omega)]
    rw [e1,e2]
    exact { h with m1:=by simp only;omega }
  · have hw1:wrap64 (rd m (a:Int)+rd m ((a:Int)+(n:Int)))=rd m (a:Int)+rd m ((a:Int)+(n:Int)):=by
      have:=h.m0;have:=hB.m0
      rw [ecast] at *
      unfold wrap64
      omega
    have hbn:=hB.b0 (by rw [← ecast];exact h0)
    have hw2:wrap64 (rd b ((a:Int)+(n:Int))+1)=rd b ((a:Int)+(n:Int))+1:=by rw [ecast];unfold wrap64;omega
    have hfn:rd f ((a:Int)+(n:Int))=rd b ((a:Int)+(n:Int)):=by
      unfold Of at hO
      rw [ecast] at h0 ⊢
      rw [hO,if_neg h0]
    have hm1':rd m ((a:Int)+(n:Int))≤((2 ^ (p.size - a - n):Nat):Int):=by rw [ecast];exact hm1
    have hmn0:0≤rd m ((a:Int)+(n:Int)):=by rw [ecast];exact hB.m0
    have hbn':0≤rd b ((a:Int)+(n:Int))∧rd b ((a:Int)+(n:Int))≤((p.size - (a+n):Nat):Int):=by rw [ecast];exact hbn
    have hma:=h.m0
    have hnz:rd m (a:Int)+rd m ((a:Int)+(n:Int)) ≠ 0:=by omega
    have eset:∀ j:Nat,rd (m.set a (rd m (a:Int)+rd m ((a:Int)+(n:Int)))) (j:Int)=if j=a then rd m (a:Int)+rd m ((a:Int)+(n:Int)) else rd m (j:Int):=fun j=>rd_set m a _ j (by omega)
    have bset:∀ (x:Int) (j:Nat),rd (b.set a x) (j:Int)=if j=a then x else rd b (j:Int):=fun x j=>rd_set b a _ j (by omega)
    have fset:∀ (x:Int) (j:Nat),rd (f.set a x) (j:Int)=if j=a then x else rd f (j:Int):=fun x j=>rd_set f a _ j (by omega)
    have fin:∀ (b' f':List Int),b'.length=p.size+1→f'.length=p.size+1→(∀ j:Nat,j ≠ a→rd b' (j:Int)=rd b (j:Int))→(∀ j:Nat,j ≠ a→rd f' (j:Int)=rd f (j:Int))→rd f' (a:Int)=rd b' (a:Int)→0≤rd b' (a:Int)→rd b' (a:Int)≤((p.size - a:Nat):Int) →
        (∃ x:Nat,(x:Int) ∈ rowAt ws p a∧1≤x∧rd m ((a+x:Nat):Int) ≠ 0∧rd b ((a+x:Nat):Int)=rd b' (a:Int) - 1)→Amid ws p a f' (m.set a (rd m (a:Int)+rd m ((a:Int)+(n:Int)))) b' n:=by
      intro b' f' l1 l2 hb' hf' he hb0 hb1 ⟨x,hx1,hx2,hx3,hx4⟩
      have em:∀ j:Nat,j ≠ a→rd (m.set a (rd m (a:Int)+rd m ((a:Int)+(n:Int)))) (j:Int)=rd m (j:Int):=fun j hj=>by rw [eset,if_neg hj]
      have ea:rd (m.set a (rd m (a:Int)+rd m ((a:Int)+(n:Int)))) (a:Int)=rd m (a:Int)+rd m ((a:Int)+(n:Int)):=by rw [eset,if_pos rfl]
      refine ⟨by simpa using hlm,l1,l2,fun j h1 h2=>?_,fun j h1 h2=>?_,fun j hj=>?_,by rw [ea];omega,by rw [ea];omega,fun _=>⟨hb0,hb1⟩,fun _=>⟨(x:Int),hx1,?_,?_⟩⟩
      · by_cases hj:j=a
        · subst hj;unfold Of;rw [ea,if_neg hnz,he]
        · have:=h.of j h1 h2
          unfold Of at this ⊢
          rw [em j hj,hb' j hj,hf' j hj]
          exact this
      · have hB2:=h.behind j h1 h2
        have hj:j ≠ a:=by omega
        refine ⟨by rw [em j hj];exact hB2.m0,by rw [em j hj];exact hB2.m1,by rw [em j hj,hb' j hj];exact hB2.b0,fun h3 h4=>?_⟩
        rw [em j hj] at h3
        obtain ⟨y,hy1,hy2,hy3⟩:=hB2.led h3 h4
        have hy4:=rowAt_mem hy1
        obtain ⟨z,rfl⟩:∃ z:Nat,y=(z:Int):=⟨y.toNat,by omega⟩
        have ez:((j:Int)+(z:Int))=((j+z:Nat):Int):=by omega
        refine ⟨(z:Int),hy1,?_,?_⟩
        · rw [ez] at hy2 ⊢;rw [em _ (by omega)];exact hy2
        · rw [ez] at hy3 ⊢;rw [hb' _ (by omega),hb' j hj];exact hy3
      · rw [em j (by omega)];exact h.low j hj
      · rw [show ((a:Int)+(x:Int))=((a+x:Nat):Int) by omega,em _ (by omega)];exact hx3
      · rw [show ((a:Int)+(x:Int))=((a+x:Nat):Int) by omega,hb' _ (by omega)];exact hx4
    have hwit:(n:Int) ∈ rowAt ws p a∧1≤n∧rd m ((a+n:Nat):Int) ≠ 0:=⟨hn,by omega,by rw [← ecast];exact h0⟩
    unfold splitN fewN
    simp only [if_neg h0,hw1,hw2,hfn]
    by_cases h1:rd m (a:Int)=0
    · have hfa:rd f (a:Int)=-1:=by unfold Of at hOa;rw [if_pos h1] at hOa;exact hOa
      rw [if_pos ⟨hbn'.1,.inl (by omega)⟩,if_pos (.inl h1)]
      refine fin _ _ (by simpa using hlb) (by simpa using hlf) (fun j hj=>by rw [bset,if_neg hj]) (fun j hj=>by rw [fset,if_neg hj]) (by rw [bset,fset,if_pos rfl,if_pos rfl]) (by rw [bset,if_pos rfl];omega) (by rw [bset,if_pos rfl];omega) ⟨n,hwit.1,hwit.2.1,hwit.2.2,by rw [bset,if_pos rfl,← ecast];omega⟩
    · have hfa:rd f (a:Int)=rd b (a:Int):=by unfold Of at hOa;rw [if_neg h1] at hOa;exact hOa
      have hba:=h.b0 h1
      by_cases h2:rd b ((a:Int)+(n:Int))+1<rd b (a:Int)
      · rw [if_pos ⟨hbn'.1,.inr (by omega)⟩,if_pos (.inr h2)]
        refine fin _ _ (by simpa using hlb) (by simpa using hlf) (fun j hj=>by rw [bset,if_neg hj]) (fun j hj=>by rw [fset,if_neg hj]) (by rw [bset,fset,if_pos rfl,if_pos rfl]) (by rw [bset,if_pos rfl];omega) (by rw [bset,if_pos rfl];omega) ⟨n,hwit.1,hwit.2.1,hwit.2.2,by rw [bset,if_pos rfl,← ecast];omega⟩
      · rw [if_neg (fun h=>by rcases h.2 with h|h <;> omega),if_neg (fun h=>h.elim h1 h2)]
        obtain ⟨y,hy1,hy2,hy3⟩:=h.led h1
        have hy4:=rowAt_mem hy1
        obtain ⟨z,rfl⟩:∃ z:Nat,y=(z:Int):=⟨y.toNat,by omega⟩
        have ez:((a:Int)+(z:Int))=((a+z:Nat):Int):=by omega
        rw [ez] at hy2 hy3
        exact fin b f hlb hlf (fun _ _=>rfl) (fun _ _=>rfl) hfa hba.1 hba.2 ⟨z,hy1,by omega,hy2,hy3⟩
theorem Amid.fold {ws:List ByteArray} {p:ByteArray} (hp:p.size≤60) {a:Nat} (ha:a<p.size):∀ (row:List Int) (f:List Int) (mb:List Int × List Int) (q:Nat),Amid ws p a f mb.1 mb.2 q→(∀ n ∈ row,n ∈ rowAt ws p a∧(q:Int)<n)→row.Pairwise (·<·) →
    ∃ q',Amid ws p a (row.foldl (fewN a) f) (row.foldl (splitN a) mb).1 (row.foldl (splitN a) mb).2 q'
  | [],f,mb,q,h,_,_=>⟨q,h⟩
  | n :: t,f,mb,q,h,hm,hs=>by
    obtain ⟨h1,h2⟩:=hm n List.mem_cons_self
    have h3:=rowAt_mem h1
    obtain ⟨x,rfl⟩:∃ x:Nat,n=(x:Int):=⟨n.toNat,by omega⟩
    obtain ⟨hs1,hs2⟩:=List.pairwise_cons.1 hs
    simp only [List.foldl_cons]
    exact Amid.fold hp ha t _ _ x (h.next hp ha x h1 (by omega) (by omega)) (fun y hy=>⟨(hm y (List.mem_cons_of_mem _ hy)).1,hs1 y hy⟩) hs2
structure From (ws:List ByteArray) (p:ByteArray) (a:Nat) (f m b:List Int):Prop where
  lm:m.length=p.size+1
  lb:b.length=p.size+1
  lf:f.length=p.size+1
  of:∀ j,a≤j→j≤p.size→Of f m b j
  behind:∀ j,a≤j→j≤p.size→Behind ws p m b j
  low:∀ j,j<a→rd m (j:Int)=0
theorem From.step {ws:List ByteArray} (hv:VW ws) {p:ByteArray} (hp:p.size≤60) {a:Nat} (ha:a<p.size) {f:List Int} {mb:List Int × List Int} (h:From ws p (a+1) f mb.1 mb.2) :
    From ws p a ((rowAt ws p a).foldl (fewN a) (f.set a (-1))) ((rowAt ws p a).foldl (splitN a) mb).1 ((rowAt ws p a).foldl (splitN a) mb).2:=by
  have hlf:=h.lf
  have hz:=h.low a (by omega)
  have e:∀ j:Nat,rd (f.set a (-1)) (j:Int)=if j=a then -1 else rd f (j:Int):=fun j=>rd_set f a _ j (by omega)
  have h0:Amid ws p a (f.set a (-1)) mb.1 mb.2 0:=by
    refine ⟨h.lm,h.lb,by simpa using hlf,fun j h1 h2=>?_,fun j h1 h2=>h.behind j h1 h2,fun j hj=>h.low j (by omega),by omega,by rw [hz,Nat.sub_zero];omega,fun h=>absurd hz h,fun h=>absurd hz h⟩
    by_cases hj:j=a
    · subst hj;unfold Of;rw [e,if_pos rfl,if_pos hz]
    · have:=h.of j (by omega) h2
      unfold Of at this ⊢
      rw [e,if_neg hj];exact this
  obtain ⟨q,hA⟩:=Amid.fold hp ha (rowAt ws p a) _ _ 0 h0 (fun n hn=>⟨hn,by have:=rowAt_mem hn;omega⟩) (rowAt_lt hv p a)
  refine ⟨hA.lm,hA.lb,hA.lf,hA.of,fun j h1 h2=>?_,hA.low⟩
  by_cases hj:j=a
  · subst hj
    have:=hA.m1
    have hnn:(0:Int)≤((2 ^ (p.size - j - q):Nat):Int):=Int.natCast_nonneg _
    exact ⟨hA.m0,by omega,hA.b0,fun h3 _=>hA.led h3⟩
  · exact hA.behind j (by omega) h2
theorem From.all {ws:List ByteArray} (hv:VW ws) {p:ByteArray} (hp:p.size≤60):∀ (a:Nat) (f:List Int) (mb:List Int × List Int),a≤p.size→From ws p a f mb.1 mb.2→From ws p 0 (fewF ws p a f) (splitsF ws p a mb).1 (splitsF ws p a mb).2
  | 0,f,mb,_,h=>h
  | a+1,f,mb,ha,h=>From.all hv hp a _ _ (by omega) (h.step hv hp (by omega))
def fewW (ws:List ByteArray) (p:ByteArray):List Int:=fewF ws p p.size (List.replicate (p.size+1) 0)
theorem rd_rep (n j:Nat):rd (List.replicate n 0) (j:Int)=0:=by
  simp only [rd,Int.toNat_natCast,List.getD_eq_getElem?_getD,List.getElem?_replicate]
  split <;> rfl
theorem few_splits {ws:List ByteArray} (hv:VW ws) {p:ByteArray} (hp:p.size≤60):From ws p 0 (fewW ws p) (splitsW ws p).1 (splitsW ws p).2:=by
  refine From.all hv hp p.size _ (splits0 p) (Nat.le_refl _) ?_
  have e:∀ j:Nat,rd (splits0 p).1 (j:Int)=if j=p.size then 1 else 0:=fun j=>by
    show rd ((List.replicate (p.size+1) 0).set p.size 1) (j:Int)=_
    rw [rd_set _ _ _ _ (by simp),rd_rep]
  have eb:∀ j:Nat,rd (splits0 p).2 (j:Int)=0:=fun j=>rd_rep _ j
  refine ⟨by simp [splits0],by simp [splits0],by simp,fun j h1 h2=>?_,fun j h1 h2=>?_,fun j hj=>by rw [e,if_neg (by omega)]⟩
  · obtain rfl:j=p.size:=by omega
    unfold Of
    rw [e,if_pos rfl,eb,rd_rep,if_neg (by omega)]
  · obtain rfl:j=p.size:=by omega
    refine ⟨by rw [e,if_pos rfl];omega,by rw [e,if_pos rfl,Nat.sub_self];decide,fun _=>by rw [eb];omega,fun _ h=>by omega⟩
end Go.Proofs.YtadpmgdmiaoniaaGreatDoor.Q
namespace Go.Proofs.YtadpmgdmiaoniaaGreatDoor.Q
open Go.RowKit Go.Proofs.YtadpmgdmiaoniaaGreatDoorW.PrintWords Go.Proofs.YtadpmgdmiaoniaaGreatDoorW.PrintLast
def Sm (m:List Int):Prop:=∀ x ∈ m,wrap64 x=x
theorem wrap_idem (x:Int):wrap64 (wrap64 x)=wrap64 x:=by unfold wrap64;omega
theorem Sm.set {m:List Int} (h:Sm m) (a:Nat) (x:Int):Sm (m.set a (wrap64 x)):=fun y hy=>by
  rcases List.mem_or_eq_of_mem_set hy with hy|rfl
  · exact h y hy
  · exact wrap_idem x
theorem splits_len (ws:List ByteArray) (p:ByteArray):∀ (a:Nat) (mb:List Int × List Int),(splitsF ws p a mb).1.length=mb.1.length∧(splitsF ws p a mb).2.length=mb.2.length
  | 0,mb=>⟨rfl,rfl⟩
  | a+1,mb=>by
    have h:=foldN_len a (rowAt ws p a) mb
    have ih:=splits_len ws p a ((rowAt ws p a).foldl (splitN a) mb)
    exact ⟨ih.1.trans h.1,ih.2.trans h.2⟩
theorem splitsW_len (ws:List ByteArray) (p:ByteArray):(splitsW ws p).1.length=p.size+1∧(splitsW ws p).2.length=p.size+1:=by
  have h:=splits_len ws p p.size (splits0 p)
  exact ⟨h.1.trans (by simp [splits0]),h.2.trans (by simp [splits0])⟩
theorem splits_of {ws:List ByteArray} (hv:VW ws) (p:ByteArray) (h:impl_Trie_standing.f (trieW ws) p=some (standW ws p)):impl_Trie_splits.f (trieW ws) p=some (splitsW ws p):=by
  unfold impl_Trie_standing.f at h
  unfold impl_Trie_splits.f
  split at h
  case isFalse=>cases h
  rename_i hc
  rw [if_pos hc,wordsV_trie hv]
end Go.Proofs.YtadpmgdmiaoniaaGreatDoor.Q
namespace Go.Proofs.YtadpmgdmiaoniaaGreatDoor.Q
open Go.RowKit Go.Shelf Go.Proofs.YtadpmgdmiaoniaaGreatDoorW.PrintWords Go.Proofs.YtadpmgdmiaoniaaGreatDoorW.PrintLast Go.Proofs.YtadpmgdmiaoniaaGreatDoorW.PrintMore
set_option linter.unusedVariables false
attribute [local go_sem] Oper.semAt_some
def backL (zs:List Int):List (Int × Nat):=zs.zipIdx.reverse
theorem backL_length (zs:List Int):(backL zs).length=zs.length:=by simp [backL]
theorem backL_at (zs:List Int) (k:Nat) (h:k<zs.length):(backL zs)[zs.length - (k+1)]?=some (rd zs (k:Int),k):=by
 unfold backL
 rw [List.getElem?_reverse (by simp;omega)]
 have e:zs.zipIdx.length - 1 - (zs.length - (k+1))=k:=by simp;omega
 rw [e,List.getElem?_zipIdx]
 simp [rd,h]
theorem backL_fst (zs:List Int):(backL zs).map Prod.fst=zs.reverse:=by
 unfold backL
 rw [List.map_reverse,List.zipIdx_map_fst]
abbrev Bk (zs:List Int):Type:={x:Int × Nat // x ∈ backL zs}
def backA (zs:List Int):List (Bk zs):=(backL zs).attach
theorem backA_length (zs:List Int):(backA zs).length=zs.length:=by unfold backA;rw [List.length_attach,backL_length]
theorem backA_fst (zs:List Int):(backA zs).map (fun x=>x.val.1)=zs.reverse:=by
 rw [← backL_fst]
 unfold backA
 show (backL zs).attach.map (Prod.fst ∘ Subtype.val)=_
 rw [← List.map_map,List.attach_map_subtype_val]
theorem backA_take (zs:List Int) (k:Nat) (h:k<zs.length):∃ x:Bk zs,x.val=(rd zs (k:Int),k)∧(backA zs).take (zs.length - k)=(backA zs).take (zs.length - (k+1)) ++ [x]:=by
 have hj:zs.length - (k+1)<(backA zs).length:=by rw [backA_length];omega
 have e:zs.length - k=zs.length - (k+1)+1:=by omega
 refine ⟨(backA zs)[zs.length - (k+1)],?_,by rw [e,List.take_succ_eq_append_getElem hj]⟩
 have h1:(backA zs)[zs.length - (k+1)].val=(backL zs)[zs.length - (k+1)]'(by rw [backL_length];omega):=by simp [backA]
 rw [h1]
 have h2:=backL_at zs k h
 rw [List.getElem?_eq_getElem (by rw [backL_length];omega)] at h2
 exact Option.some.inj h2
theorem backA_mem (zs:List Int) (x:Bk zs):x.val.1 ∈ zs:=by
 have h:=List.mem_map_of_mem (f:=Prod.fst) x.2
 rw [backL_fst] at h
 exact List.mem_reverse.1 h
set_option maxRecDepth 100000 in
set_option maxHeartbeats 2000000 in
theorem backward1_in (F:Fence) (n:Nat) (hf:F.fn 51) (hro:F.round=none) (hn:1≤n) (l Bs n₀ cap:Nat) (A:Option Addr) (zs:List Int) (hreach:zs.length≤4398046511104) (J Jx:List (Bk zs)→World→Prop)
  (hY:∀ pre x W,J pre W→pre.length<zs.length→YieldAt F (n - 1) Tryz.prog l #[.int .i64 (x.val.2:Int),.int .i64 x.val.1] W fun e W' =>
   (e=.returned (.bool true)∧J (pre ++ [x]) W'∧Below n₀ W W')∨(e=.returned (.bool false)∧Jx (pre ++ [x]) W'))
  (W:World) (hBs:∀ W',Below n₀ W W'→W'.cell? ⟨Bs,0,none⟩=some (.slice A zs.length cap)) (hc:∀ W',Below n₀ W W'→Kd.C (Kd.int .i64) W' A zs.length zs) (h0:J [] W) :
  CallsIn F n Tryz.prog 51 #[.func (.yield l) #[] #[],.pointer (some ⟨Bs,0,none⟩)] W fun e W'=>(∃ v,e=.returned v) ∧
   ((∃ ys,ys=backA zs∧J ys W')∨(∃ pre,pre <+: backA zs∧Jx pre W')):=by
 have HC:=Zz.mk hc
 have HB:=Zz.mk hBs
 have HY:=Zz.mk hY
 have hB0:=hBs W (Below.refl _ _)
 clear hc hY hBs
 refine callsIn_of_wp Tryz.func51 rfl hf ?_ hro
 simp only [Tryz.ntmps51,List.size_toArray,List.length_cons,List.length_nil,Nat.reduceAdd,Nat.reduceSub,Array.replicate_succ,Array.replicate_zero,List.push_toArray,List.append_toArray,List.nil_append,List.cons_append]
 have hwr:IntKind.i64.wrap ((zs.length:Int) - 1)=(zs.length:Int) - 1:=by rw [i64_w];unfold wrap64;omega
 gi_wp2
 clear hwr hB0
 gi_loopw [3] (fun i wr=>∃ k:Nat,k≤zs.length∧i=.int .i64 ((k:Int) - 1)∧J ((backA zs).take (zs.length - k)) wr∧Below n₀ W wr)
  (fun i _=>(intOf i+1).toNat)
 case atStart=>exact ⟨zs.length,Nat.le_refl _,rfl,by simpa using h0,Below.refl _ _⟩
 case round =>
  obtain ⟨k,hk,rfl,hJs,hnx⟩:=hrel
  cases k with
  | zero =>
   gi_wp2
   go_end0
   refine ⟨⟨_,rfl⟩,.inl ⟨_,rfl,?_⟩⟩
   have:=hJs
   rw [Nat.sub_zero,List.take_of_length_le (by rw [backA_length];exact Nat.le_refl _)] at this
   exact this
  | succ k =>
   have ek:((k+1:Nat):Int) - 1=(k:Int):=by omega
   rw [ek]
   have hlt:k<zs.length:=by omega
   obtain ⟨ad,e0,hx⟩:=Kd.at_int (HC.out wr hnx) (k:Int) (by omega) (by omega)
   cases e0
   simp only [Int.toNat_natCast] at hx
   have hb:=HB.out wr hnx
   have hwr:IntKind.i64.wrap ((k:Int) - 1)=(k:Int) - 1:=by rw [i64_w];unfold wrap64;omega
   obtain ⟨x,hxv,hxt⟩:=backA_take zs k hlt
   have hXT:=Zz.mk hxt
   clear hxt
   obtain ⟨fn,tmps,assign,body,hy,hR⟩:=HY.out _ x wr hJs (by rw [List.length_take,backA_length];omega)
   rw [hxv] at hy
   simp only at hy
   clear hxv
   gi_wp2
   refine hR.mono ?_
   rintro e W3 (⟨rfl,hJ3,hk3⟩|⟨rfl,hJx3⟩)
   ·gi_wp2
    go_roundw
    case rel=>exact ⟨k,by omega,by simp,by rw [hXT.out];exact hJ3,hnx.trans hk3⟩
    case measure=>simp [intOf]
   ·gi_wp2
    refine bodyPost_ret (results_none rfl _ _ _) rfl ?_
    exact ⟨⟨_,rfl⟩,.inr ⟨_,by rw [← hXT.out];exact List.take_prefix _ _,hJx3⟩⟩
theorem backward_stops (F:Fence) (n:Nat) (hf:F.fn 51) (hro:F.round=none) (hn:1≤n) (Bs n₀ cap:Nat) (A:Option Addr) (zs:List Int) (hreach:zs.length≤4398046511104) (w:World) (hBs:Bs<n₀) (hn₀:n₀≤w.heap.size)
  (hc:w.cell? ⟨Bs,0,none⟩=some (.slice A zs.length cap)) (hI:∀ W',Below n₀ w W'→Kd.C (Kd.int .i64) W' A zs.length zs) :
  SeqStopsK F n Tryz.prog 51 #[.pointer (some ⟨Bs,0,none⟩)] (fun x:Bk zs=>#[Value.int .i64 (x.val.2:Int),Value.int .i64 x.val.1]) (Below n₀) (fun ys=>ys=backA zs) (fun pre=>pre <+: backA zs) zs.length w:=fun l J Jx W hW _ _ hY h0 =>
 backward1_in F n hf hro hn l Bs n₀ cap A zs hreach J Jx hY W (fun W' hW'=>(((hW.mono hn₀).trans hW').cell (p:=⟨Bs,0,none⟩) hBs).trans hc) (fun W' hW'=>hI W' ((hW.mono hn₀).trans hW')) h0
theorem backward_calls (A:Option Addr) (n c:Nat) (w:World) :
  Calls Tryz.prog 37 #[.slice A n c] w fun e w'=>e=.returned (.func (.func 51) #[] #[.pointer (some ⟨w.heap.size,0,none⟩)])∧w'=w.alloc (.cells #[.slice A n c] 38):=by
 go_enter Tryz.func37,Tryz.ntmps37
 go_wp2
 go_ret
 exact ⟨rfl,rfl⟩
end Go.Proofs.YtadpmgdmiaoniaaGreatDoor.Q
namespace Go.Proofs.YtadpmgdmiaoniaaGreatDoor.Q
open Go.RowKit Go.Sort Go.Shelf Go.Proofs.YtadpmgdmiaoniaaGreatDoorW.PrintWords Go.Proofs.YtadpmgdmiaoniaaGreatDoorW.PrintLast Go.Proofs.YtadpmgdmiaoniaaGreatDoorW.PrintMore
set_option linter.unusedVariables false
set_option linter.unusedSimpArgs false
attribute [local go_sem] Oper.semAt_some
def okN (m b:List Int) (a:Nat) (n:Int):Bool:=decide (0<rd m ((a:Int)+n)) && (rd b ((a:Int)+n) == wrap64 (rd b (a:Int) - 1))
def bestF (ws:List ByteArray) (p:ByteArray) (m b:List Int):Nat→Nat→List ByteArray→List ByteArray
  | 0,_,out=>out
  | k+1,a,out=>if a<p.size then (match (rowAt ws p a).reverse.find? (okN m b a) with
    | some n=>bestF ws p m b k (a+n.toNat) (out ++ [p.extract a (a+n.toNat)])
    | none=>out) else out
def bestW (ws:List ByteArray) (p:ByteArray):List ByteArray:=bestF ws p (splitsW ws p).1 (splitsW ws p).2 p.size 0 []
theorem find_prefix {α:Type} {q:α→Bool} {L ini:List α} {x:α} (h:ini ++ [x] <+: L) (h1:∀ y ∈ ini,q y=false) (h2:q x=true):L.find? q=some x:=by
  obtain ⟨t,rfl⟩:=h
  rw [List.append_assoc,List.find?_append,List.find?_eq_none.2 (fun y hy=>by rw [h1 y hy];decide)]
  simp [h2]
structure Marks (n₀ b:Nat) (ds:List Deferred) (W:World):Prop where
  all:∀ d ∈ ds,∃ D,d.target=.collected D∧n₀≤D∧D<b∧W.heap[D]?=some (.deferred (some []))
  apart:ds.Pairwise (fun d e=>d.target ≠ e.target)
structure BS (n₀ go ga b:Nat) (ds:List Deferred) (W0 W:World) (out:List ByteArray) (a:Nat):Prop where
  below:Below n₀ W0 W
  box:∃ v,Boxed W go 43 v∧W.ownsRow n₀ 9 1 v out.length (out.map Value.string)
  pos:Boxed W ga 3 (.int .i64 a)
  marks:Marks n₀ b ds W
  hgo:n₀≤go
  hga:n₀≤ga
  hb:b≤W.heap.size
  hn:n₀≤W0.heap.size
  hnb:n₀≤b
theorem Marks.kept {n₀ b:Nat} {ds:List Deferred} {W W':World} (h:Marks n₀ b ds W) (hk:∀ (k:Nat) (o:Obj),n₀≤k→k<b→W.heap[k]?=some o→o.isCells=false→W'.heap[k]?=some o):Marks n₀ b ds W' :=
  ⟨fun d hd=>by obtain ⟨D,h1,h2,h3,h4⟩:=h.all d hd;exact ⟨D,h1,h2,h3,hk D _ h2 h3 h4 rfl⟩,h.apart⟩
theorem Marks.more {n₀ b:Nat} {ds:List Deferred} {W:World} (h:Marks n₀ b ds W) (D b':Nat) (hD:b≤D) (hn:n₀≤D) (hb:D<b') (hk:W.heap[D]?=some (.deferred (some []))):Marks n₀ b' ({ target:=.collected D,args:=#[] } :: ds) W:=by
  refine ⟨fun d hd=>?_,List.pairwise_cons.2 ⟨fun d hd e=>?_,h.apart⟩⟩
  · rcases List.mem_cons.1 hd with rfl|hd
    · exact ⟨D,rfl,hn,hb,hk⟩
    · obtain ⟨D',h1,h2,h3,h4⟩:=h.all d hd
      exact ⟨D',h1,h2,by omega,h4⟩
  · obtain ⟨D',h1,h2,h3,h4⟩:=h.all d hd
    rw [h1] at e
    injection e with e
    omega
theorem BS.own {n₀ go ga b:Nat} {ds:List Deferred} {W0:World} {out:List ByteArray} {a B:Nat} {X Y:World} {row:Option Nat} (h:BS n₀ go ga b ds W0 X out a) (hB:b≤B) (hg:X.grownBy Y row) (hr:∀ r,row=some r→B≤r∧∃ o:Obj,X.heap[r]?=some o∧o.isCells=false):BS n₀ go ga b ds W0 Y out a:=by
  have hnB:=h.hnb
  refine ⟨h.below.grown hg (Nat.le_trans h.hn h.below.size) (fun k e=>by have:=(hr k e).1;omega),?_,?_,h.marks.kept (fun k o h1 h2 h3 h4=>?_),h.hgo,h.hga,Nat.le_trans h.hb hg.size,h.hn,h.hnb⟩
  · obtain ⟨v,h1,h2,_⟩:=holdsRow_own n₀ go 43 9 1 (fun _:Unit=>out.length) (fun _=>out.map Value.string) (fun _ _=>True) () X Y row (by obtain ⟨v,h1,h2⟩:=h.box;exact ⟨v,h1,h2,trivial⟩) hg (fun r e=>(hr r e).2)
    exact ⟨v,h1,h2⟩
  · refine h.pos.kept hg (fun e=>?_)
    obtain ⟨_,o,ho,hc⟩:=hr ga e.symm
    rw [show X.heap[ga]?=_ from h.pos] at ho;cases ho;cases hc
  · rw [hg.block k (Array.getElem?_eq_some_iff.1 h3).1 (fun e=>by have:=(hr k e.symm).1;omega)]
    exact h3
theorem BS.drew {n₀ go ga b:Nat} {ds:List Deferred} {W0 W:World} {out:List ByteArray} {a:Nat} (h:BS n₀ go ga b ds W0 W out a):BS n₀ go ga b ds W0 W.drew out a :=
  ⟨h.below.drew,h.box,h.pos,⟨h.marks.all,h.marks.apart⟩,h.hgo,h.hga,h.hb,h.hn,h.hnb⟩
theorem BS.drewN {n₀ go ga b:Nat} {ds:List Deferred} {W0 W:World} {out:List ByteArray} {a:Nat} (h:BS n₀ go ga b ds W0 W out a) (k:Nat):BS n₀ go ga b ds W0 (W.drewN k) out a :=
  ⟨⟨h.below.os,h.below.tape,h.below.output,h.below.size,h.below.block⟩,h.box,h.pos,⟨h.marks.all,h.marks.apart⟩,h.hgo,h.hga,h.hb,h.hn,h.hnb⟩
theorem box_other {W:World} {B B':Nat} {t:TypeId} {v:Value} (h:Boxed W B t v) (hne:B ≠ B') (u:Value):Boxed (W.setCell ⟨B',0,none⟩ u) B t v:=h.kept (grownBy_setCell' W B' u) (fun e=>hne (by cases e;rfl))
theorem BS.hne {n₀ go ga b:Nat} {ds:List Deferred} {W0 W:World} {out:List ByteArray} {a:Nat} (h:BS n₀ go ga b ds W0 W out a):go ≠ ga:=by
  rintro rfl
  obtain ⟨v,h1,_⟩:=h.box
  have h2:=h.pos
  have h3:=(show W.heap[go]?=_ from h1).symm.trans (show W.heap[go]?=_ from h2)
  injection h3 with h3
  injection h3 with _ h3
  revert h3
  decide
theorem BS.push {n₀ go ga b:Nat} {ds:List Deferred} {W0 W w1:World} {out:List ByteArray} {a:Nat} {v v':Value} {tmp:Obj} {x:ByteArray} (h:BS n₀ go ga b ds W0 W out a) (hv:Boxed W go 43 v) (hr:W.ownsRow n₀ 9 1 v out.length (out.map Value.string))
    (hown':w1.ownsRow n₀ 9 1 v' (out.length+1) (out.map Value.string ++ [.string x])) (hg:(W.alloc tmp).grownBy w1 v.ownBlock):Boxed w1 go 43 v∧BS n₀ go ga b ds W0 (w1.setCell ⟨go,0,none⟩ v') (out ++ [x]) a∧KeepsOthers W (w1.setCell ⟨go,0,none⟩ v'):=by
  obtain ⟨b1,b2,b3,b4,b5⟩:=Boxed.appended hv (by decide) hr (Nat.le_trans h.hn h.below.size) h.hgo hown' hg
  refine ⟨b1,⟨h.below.trans b5,⟨v',b2,by simpa using b3⟩,box_other ((h.pos.alloc tmp).kept hg (h.pos.not_row (by decide) hr)) (fun e=>h.hne e.symm) v',h.marks.kept (fun k o h1 h2 h3 h4=>b4.2 k o h3 h4),h.hgo,h.hga,Nat.le_trans h.hb b5.size,h.hn,h.hnb⟩,b4⟩
theorem BS.put {n₀ go ga b:Nat} {ds:List Deferred} {W0 W:World} {out:List ByteArray} {a:Nat} (h:BS n₀ go ga b ds W0 W out a) (a':Nat):BS n₀ go ga b ds W0 (W.setCell ⟨ga,0,none⟩ (.int .i64 (a':Int))) out a':=by
  obtain ⟨v,h1,h2⟩:=h.box
  refine ⟨h.below.setCell h.hga _,⟨v,box_other h1 h.hne _,h2.kept (grownBy_setCell' W ga _) (.inr (h.pos.not_row (by decide) h2).symm)⟩,Boxed.set _ h.pos,h.marks.kept (fun k o h1 h2 h3 h4=>(KeepsOthers.setCell W ⟨ga,0,none⟩ _).2 k o h3 h4),h.hgo,h.hga,Nat.le_trans h.hb (KeepsOthers.setCell W ⟨ga,0,none⟩ _).1,h.hn,h.hnb⟩
theorem op_append {F:Fence} {n:Nat} {P:Program} (w:World) {o:Oper} {a:Act} {K:Act→World→Prop} {Q:Exit→Act→World→Prop}
    (s x:Operand) (t:TypeId) (hop:o.op=Op.call { callee:=Callee.builtin Builtin.append,args:=#[s,x],argTypes:=#[t,t] })
    (base:Nat) (e:TypeId) (i:TypeInfo) (z:Value) (bytes:Nat) (h1:P.underlying t=some (.slice e)) (h2:P.info? e=some i) (h3:i.zero=some z) (h4:i.size=1) (h5:i.bytes=bytes) (h6:z.cells.size=1)
    (v:Value) (k:Nat) (xs:List Value) (hs:a.eval s=v) (hown:w.ownsRow base e 1 v k xs) (ad:Addr) (c:Nat) (u:Value) (hx:a.eval x=.slice (some ad) 1 c)
    (hc:∀ j y,([u]:List Value)[j]?=some y→w.cell? (ad.add j)=some y) (h1c:u.oneCell'=true) (b1:k+1≤maxLen) (b2:(k+1) * bytes≤140737488355328) (b3:base≤w.heap.size)
    (hK:∀ v' w',w'.ownsRow base e 1 v' (k+1) (xs ++ [u])→w.grownBy w' v.ownBlock→K (a.put o.dst v') w'):o.wpIn F n P a w K Q:=by
  obtain ⟨v',w',hrun,r1,r2,_⟩:=run_append_own (P:=P) w base t o.type e i z 1 bytes h1 h2 h3 h4 h5 h6 (by decide) v k xs hown ad 1 c [u] rfl hc (by simpa using h1c) b1 b2 b3
  unfold Oper.wpIn
  refine ⟨by simp [Oper.about,hop,resolve,Target.leads,Sem.run_pure],?_⟩
  rw [Oper.semAt_plain F _ _ (by rw [hop];intro c hc';cases hc')]
  simp [execOp,hop,resolve,invoke,builtin,hs,hx,hrun,Result.andThen]
  exact hK _ _ r1 r2
theorem by_key0 {G P:Prop} (h:Zz G→P) (g:G):P:=h ⟨g⟩
theorem led_ok {ws:List ByteArray} {p:ByteArray} (hp:p.size≤60) {f m b:List Int} (hF:From ws p 0 f m b) {a:Nat} (hlt:a<p.size) (hm:rd m (a:Int) ≠ 0):∃ y ∈ rowAt ws p a,okN m b a y=true:=by
  obtain ⟨y,hy1,hy2,hy3⟩:=(hF.behind a (by omega) (by omega)).led hm hlt
  refine ⟨y,hy1,?_⟩
  have hy4:=rowAt_mem hy1
  obtain ⟨z,rfl⟩:∃ z:Nat,y=(z:Int):=⟨y.toNat,by omega⟩
  have hz:=hF.behind (a+z) (by omega) (by omega)
  have hb:=(hF.behind a (by omega) (by omega)).b0 hm
  have ez:(a:Int)+(z:Int)=((a+z:Nat):Int):=by omega
  have ew:wrap64 (rd b (a:Int) - 1)=rd b (a:Int) - 1:=by unfold wrap64;omega
  have h0:=hz.m0
  rw [ez] at hy2 hy3
  unfold okN
  rw [ez,ew,Bool.and_eq_true,decide_eq_true_eq,beq_iff_eq]
  exact ⟨by omega,hy3⟩
theorem leave_marks {F:Fence} {n:Nat} {fn:Func} {tmps:Array Value} {R:Ending→World→Prop} (Pr:World→Prop) (n₀ b:Nat) (hP:∀ X D,Pr X→n₀≤D→X.heap[D]?=some (.deferred (some []))→Pr (X.putObj D (.deferred none))) (hR:∀ X,Pr X→LeavesIn F n Tryz.prog fn tmps R [] .returning X):∀ (ds:List Deferred) (W:World),Marks n₀ b ds W→Pr W→LeavesInM F n Tryz.prog fn tmps R ds .returning W
  | [],W,_,h=>hR W h
  | d :: ds,W,hm,h=>by
    obtain ⟨D,h1,h2,h3,h4⟩:=hm.all d List.mem_cons_self
    refine ⟨by simp,.inl ⟨D,_,h1,run_takeDeferred h4,?_⟩⟩
    obtain ⟨ha,hb⟩:=List.pairwise_cons.1 hm.apart
    refine leave_marks Pr n₀ b hP hR ds _ ⟨fun e he=>?_,hb⟩ (hP W D h h2 h4)
    obtain ⟨D',k1,k2,k3,k4⟩:=hm.all e (List.mem_cons_of_mem _ he)
    refine ⟨D',k1,k2,k3,?_⟩
    have hne:D ≠ D':=fun e'=>ha e he (by rw [h1,k1,e'])
    exact (World.putObj_heap_other (fun e'=>hne e'.symm)).trans k4
def noDefer (o:Oper):Bool:=match o.op with
  | .defer _=>false
  | _=>true
theorem semAt_round (l:Nat) (ev:Operand→Value) {o:Oper} (h:noDefer o=true):Oper.semAt (some l) ev o=Oper.semAt none ev o:=by
  rw [Oper.semAt_none]
  exact Oper.semAt_some l ev o (fun c e=>by unfold noDefer at h;rw [e] at h;cases h)
theorem opIn_round {F:Fence} (hro:F.round=none) {l n i:Nat} {P:Program} {ops:Array Oper} {Q:Exit→Act→World→Prop} {K:Act→World→Prop} {a:Act} {w:World} (hd:∀ (i:Nat) (o:Oper),ops[i]?=some o→noDefer o=true) (h:wpOpIn F n P ops Q i K a w):wpOpIn (F.inRound l) n P ops Q i K a w:=by
  unfold wpOpIn at h ⊢
  cases ho:ops[i]? with
  | none=>rw [ho] at h;exact h
  | some o =>
    rw [ho] at h
    simp only at h ⊢
    by_cases hw:Region.wanted o (yielded ops a.tmps)=true
    · rw [if_pos hw] at h ⊢
      refine ⟨h.1,?_⟩
      have h2:=h.2
      rw [hro] at h2
      show o.uponIn F n P a K Q ((o.semAt (some l) a.eval).run P w)
      rw [semAt_round l a.eval (hd i o ho)]
      exact h2
    · rw [if_neg hw] at h ⊢
      exact h
theorem anyIn_round {F:Fence} (hro:F.round=none) {l n:Nat} {P:Program} {md:Region.Mode} {ops:Array Oper} {Q:Exit→Act→World→Prop} (hd:∀ (i:Nat) (o:Oper),ops[i]?=some o→noDefer o=true):∀ (fuel:Nat) (listed:Array Bool) (a:Act) (w:World),wpAnyIn F n P md ops Q fuel listed a w→wpAnyIn (F.inRound l) n P md ops Q fuel listed a w
  | 0,_,_,_,h=>h
  | fuel+1,listed,a,w,h=>⟨h.1,fun i hi=>opIn_round hro hd (wpOpIn_mono (fun a' w' h'=>anyIn_round hro hd fuel _ a' w' h') (h.2 i hi))⟩
theorem noDefer_all {L:List Oper} (h:L.all noDefer=true):∀ (i:Nat) (o:Oper),L.toArray[i]?=some o→noDefer o=true:=fun i o ho=>by
  rw [List.getElem?_toArray] at ho
  exact List.all_eq_true.1 h o (List.mem_of_getElem? ho)
theorem quiet_round {F:Fence} (hro:F.round=none) {l n id:Nat} {P:Program} {Q:Exit→Act→World→Prop} {a:Act} {w:World} {L:List Oper} (hm:P.follows .mixedOrders=true) (hd:L.all noDefer=true) (hB:Region.lexB .any L.toArray=true)
    (h:wpQuietIn F n P L.toArray (fun w'=>∃ n,w'=w.drewN n) (fun a'=>∀ w',(∃ n,w'=w.drewN n)→Q .normal a' w') L a):(Code.region id L.toArray true).wpIn (F.inRound l) n P Q a w:=by
  simp only [Region.lexB,Bool.and_eq_true] at hB
  refine wpIn_region_any hm (anyIn_round hro (noDefer_all hd) _ _ _ _ ?_)
  refine wpAnyIn_of_quiet (C:=fun w'=>∃ n,w'=w.drewN n) (Q:=fun a'=>∀ w',(∃ n,w'=w.drewN n)→Q .normal a' w') hro (fun _ w' hw' h=>h w' hw') _ _ _ _ ⟨1,rfl⟩ ?_
  have:=wpAnyQIn_lex (F:=F) (n:=n) (C:=fun w'=>∃ n,w'=w.drewN n) (md:=.any) hB.1 L 0 (Array.replicate L.toArray.size false) a (by simp) (by simpa using hB.2) h
  simpa using this
def posAt (v:Value) (W:World):Nat:=match v with
  | .pointer (some p)=>(match W.cell? p with|some u=>(intOf u).toNat|none=>0)
  | _=>0
theorem BS.fresh {n₀ go ga b:Nat} {ds:List Deferred} {W0 W:World} {out:List ByteArray} {a:Nat} (h:BS n₀ go ga b ds W0 W out a) (D:Nat) (hD:b≤D) (hDn:n₀≤D) (hk:W.heap[D]?=some (.deferred (some []))) (x:Int) (hx:x=(a:Int)):BS n₀ go W.heap.size (W.heap.size+1) ({ target:=.collected D,args:=#[] } :: ds) W0 (W.alloc (.cells #[.int .i64 x] 3)) out a:=by
  subst hx
  have hl:D<W.heap.size:=(Array.getElem?_eq_some_iff.1 hk).1
  have hz:=h.below.size
  have hn:=h.hn
  obtain ⟨v,h1,h2⟩:=h.box
  refine ⟨h.below.alloc (by omega) _,⟨v,h1.alloc _,h2.alloc _⟩,Boxed.new W _ _,?_,h.hgo,by omega,by simp,h.hn,by omega⟩
  refine (h.marks.more D (W.heap.size+1) hD hDn (by omega) hk).kept (fun k o h1 h2 h3 h4=>?_)
  exact ((World.grownBy_alloc W _ none).block k (Array.getElem?_eq_some_iff.1 h3).1 (by simp)).trans h3
theorem find_back {m b:List Int} {a:Nat} {zs:List Int} {ini:List (Bk zs)} {x:Bk zs} (h:ini ++ [x] <+: backA zs) (h1:∀ y ∈ ini,okN m b a y.val.1=false) (h2:okN m b a x.val.1=true):zs.reverse.find? (okN m b a)=some x.val.1:=by
  rw [← backA_fst,List.find?_map]
  have e:=find_prefix (q:=okN m b a ∘ fun x:Bk zs=>x.val.1) h h1 h2
  rw [e]
  rfl
theorem posAt_box {B:Nat} {t:TypeId} {W:World} {x:Int} (h:Boxed W B t (.int .i64 x)):posAt (.pointer (some ⟨B,0,none⟩)) W=x.toNat:=by
  unfold posAt
  simp only [h.cell]
  rfl
def impl_BestSplit.f (l0_0:List IN) (a1:ByteArray):Option (List ByteArray × Bool):=some (if isTrieW l0_0 && decide (okPass a1) then (if rd (splitsW (wordsV l0_0) a1).1 0=0 then ([],false) else (bestW (wordsV l0_0) a1,true)) else ([],false))
set_option maxHeartbeats 1000000 in
set_option maxRecDepth 100000 in
theorem impl_BestSplit.calls (A0_0:Option Addr) (c0_0:Nat) (l0_0:List IN) (a1:ByteArray) (r1:List ByteArray) (r2:Bool) (w:World) (hr0_0:Kd.C k70 w A0_0 l0_0.length l0_0) (hc0_0:l0_0.length≤c0_0) (h:impl_BestSplit.f l0_0 a1=some (r1,r2)) :
    Calls Tryz.prog 21 #[.agg #[.slice A0_0 l0_0.length c0_0],.string a1] w fun e w'=>∃ v0_:Value,e=.returned (.tuple #[v0_,.bool r2])∧Kd.R Kd.string 9 w' w.heap.size (fun _=>True) v0_ r1∧Below w.heap.size w w':=by
  unfold impl_BestSplit.f at h
  have h:=Option.some.inj h
  have HR0:=Zz.mk hr0_0
  have HC0:=Zz.mk hc0_0
  have HX:=Zz.mk (box_two w (.slice A0_0 l0_0.length c0_0) (.string a1) 31 9)
  have HB0:=Zz.mk (((Below.refl w.heap.size w).alloc (Nat.le_refl _) (.cells #[.slice A0_0 l0_0.length c0_0] 31)).alloc (by simp) (.cells #[.string a1] 9))
  obtain ⟨k0,hk0⟩:=(pass_ev l0_0 a1).ex
  have HK0:=Zz.mk hk0
  clear hr0_0 hc0_0 hk0
  cases hpass:(isTrieW l0_0 && decide (okPass a1)) with
  | false =>
    rw [hpass] at h HK0
    injection h with h1 h2
    subst h1;subst h2
    clear hpass
    go_enter Tryz.func21,Tryz.ntmps21
    go_wp2_with (go_at_call 30;refine (impl_arePassage.calls k0 A0_0 c0_0 l0_0 a1 false _ (Kd.C_below HR0.out HB0.out) HC0.out HK0.out).mono ?_;rintro e w1 ⟨rfl,hb⟩;have HQ1:=Zz.mk hb;clear hb)
    go_ret2
    exact ⟨_,rfl,Kd.R_nil _ _ _ _ _,HB0.out.trans (HQ1.out.mono (by simp;omega))⟩
  | true =>
    rw [hpass] at h HK0
    rw [Bool.and_eq_true,decide_eq_true_eq] at hpass
    obtain ⟨ht,hok⟩:=hpass
    rcases trie_split l0_0 with ht0|⟨ws,hva,rfl,ht0,hwa⟩
    · rw [ht0] at ht;cases ht
    have hp:=hok.1
    have hsf:impl_Trie_standing.f (trieW ws) a1=some (standW ws a1):=by unfold impl_Trie_standing.f;rw [ht0,hwa];simp [hp]
    have hsp:=splits_of hva a1 hsf
    rw [hwa] at h
    simp only [if_true] at h
    have hfs:=few_splits hva hp
    have hln:=splitsW_len ws a1
    unfold bestW at h
    generalize splitsW ws a1=mb at h hsp hfs hln
    obtain ⟨m,b⟩:=mb
    simp only at h hfs hln
    obtain ⟨hlm,hlb⟩:=hln
    have HF:=Zz.mk hfs
    have HSF:=Zz.mk hsf
    have HSP:=Zz.mk hsp
    have HE:=Zz.mk h
    have HRL:=Zz.mk (fun j=>rowAt_length hva a1 j)
    clear hva hsf hsp ht ht0 hwa h hok hfs
    refine (callsIn_wide (n:=9)).1 ?_
    obtain ⟨F,hFw⟩:∃ F,F=Fence.wide:=⟨_,rfl⟩
    rw [← hFw]
    have hfn:∀ f,F.fn f:=fun f=>by rw [hFw];trivial
    have hro:F.round=none:=by rw [hFw];rfl
    have HW:∀ {n f:Nat} {args:Array Value} {W:World} {R:Ending→World→Prop},Calls Tryz.prog f args W R→CallsIn F n Tryz.prog f args W R:=fun h=>by rw [hFw];exact callsIn_wide.2 h
    clear hFw
    have hf1:=hfn 30
    have hf2:=hfn 36
    have hf3:=hfn 31
    have hf4:=hfn 37
    have HFN:=Zz.mk hfn
    refine callsIn_of_wp_marks Tryz.func21 rfl (hfn _) ?_ hro
    simp only [Tryz.ntmps21,List.size_toArray,List.length_cons,List.length_nil,Nat.reduceAdd,Nat.reduceSub,Array.replicate_succ,Array.replicate_zero,List.push_toArray,List.append_toArray,List.nil_append,List.cons_append]
    gi_wp2_with (first
      | (gi_at_call 30;refine (HW (impl_arePassage.calls k0 A0_0 c0_0 _ a1 true _ (Kd.C_below HR0.out HB0.out) HC0.out HK0.out)).mono ?_;rintro e w1 ⟨rfl,hb⟩;have HQ1:=Zz.mk (show Below (w.heap.size+1+1) _ w1 by simpa using hb);have hx1:=box_at (HX.out w1 HQ1.out).1;have hx2:=box_at (HX.out w1 HQ1.out).2;clear hb)
      | (gi_at_call 36;refine (HW (impl_Trie_splits.calls A0_0 c0_0 _ a1 _ _ _ (Kd.C_below HR0.out (HB0.out.trans (HQ1.out.mono (by omega)))) HC0.out HSP.out)).mono ?_;rintro e w2 ⟨vm,vb,rfl,hm,hbb,hb⟩;obtain ⟨Am,cm,em⟩:=Kd.R_slice hm;obtain ⟨Ab,cb,eb⟩:=Kd.R_slice hbb;subst em;subst eb;have HCM:=Zz.mk (Kd.R_reads' hm).2.2;have HCB:=Zz.mk (Kd.R_reads' hbb).2.2;have HQ2:=Zz.mk hb;clear hm hbb hb hx1 hx2))
    have HB2:Zz (Below (w.heap.size+1+1) ((w.alloc (.cells #[.slice A0_0 (trieW ws).length c0_0] 31)).alloc (.cells #[.string a1] 9)) w2):=⟨HQ1.out.trans (HQ2.out.mono (by have:=HQ1.out.size;simp at this;omega))⟩
    have hs2:w.heap.size+1+1≤w2.heap.size:=by have:=HB2.out.size;simpa using this
    have HQ3:Zz (Below w2.heap.size w2 ((w2.alloc (.cells #[.slice Am (a1.size+1) cm] 38)).alloc (.cells #[.slice Ab (a1.size+1) cb] 38))):=⟨((Below.refl _ w2).alloc (Nat.le_refl _) _).alloc (by simp) _⟩
    have HBX:=Zz.mk (box_two w2 (.slice Am (a1.size+1) cm) (.slice Ab (a1.size+1) cb) 38 38)
    have hs3:((w2.alloc (.cells #[.slice Am (a1.size+1) cm] 38)).alloc (.cells #[.slice Ab (a1.size+1) cb] 38)).heap.size=w2.heap.size+1+1:=by simp
    generalize (w2.alloc (.cells #[.slice Am (a1.size+1) cm] 38)).alloc (.cells #[.slice Ab (a1.size+1) cb] 38)=w3 at HQ3 HBX hs3 ⊢
    have hm0:=Kd.C_below HCM.out HQ3.out
    obtain ⟨ad0,e0,hc0⟩:=Kd.at_int hm0 (0:Int) (by omega) (by omega)
    cases e0
    clear hm0
    replace hc0:w3.cell? ad0=some (.int .i64 (rd m 0)):=hc0
    have HB3:=Zz.mk (HB2.out.trans (HQ3.out.mono (by omega)))
    have q0:(0:Int)<(a1.size:Int)+1:=by omega
    have q1:=eq_true q0
    have q2:=decide_eq_true q0
    have hy1:=box_at (HBX.out w3 (Below.refl _ _)).1
    by_cases h0:rd m 0=0
    · have h0b:=beq_iff_eq.2 h0
      have he:=HE.out
      rw [if_pos h0] at he
      injection he with he1 he2
      subst he1;subst he2
      go_simp
      gi_wp2
      refine ⟨_,results_tmp2 rfl _ _ _,_,rfl,Kd.R_nil _ _ _ _ _,HB0.out.trans (HB3.out.mono (by omega))⟩
    have h0b:=beq_eq_false_iff_ne.2 h0
    have he:=HE.out
    rw [if_neg h0] at he
    injection he with he1 he2
    subst he2
    have HE1:=Zz.mk he1
    clear he1 HE
    have HN0:=Zz.mk h0
    have hx1:=box_at (HX.out w3 HB3.out).1
    have hx2:=box_at (HX.out w3 HB3.out).2
    go_simp
    gi_wp2_with (gi_at_call 31;refine (HW (impl_Trie_standing.calls A0_0 c0_0 _ a1 _ _ (Kd.C_below HR0.out (HB0.out.trans (HB3.out.mono (by omega)))) HC0.out HSF.out)).mono ?_;rintro e w4 ⟨v4,rfl,hs,hb⟩;obtain ⟨A4,c4,e4⟩:=Kd.S_slice hs;subst e4;have HS:=Zz.mk hs;have HQ4:=Zz.mk hb;clear hs hb)
    have HB4:Zz (Below (w.heap.size+1+1) ((w.alloc (.cells #[.slice A0_0 (trieW ws).length c0_0] 31)).alloc (.cells #[.string a1] 9)) w4):=⟨HB3.out.trans (HQ4.out.mono (by omega))⟩
    have hs4:w3.heap.size≤w4.heap.size:=HQ4.out.size
    have HX4:Zz (∀ W',Below w4.heap.size w4 W'→W'.cell? ⟨w.heap.size+1,0,none⟩=some (.string a1)):=⟨fun W' h=>box_at (HX.out W' (HB4.out.trans (h.mono (by omega)))).2⟩
    have HM4:Zz (∀ W',Below w4.heap.size w4 W'→W'.cell? ⟨w2.heap.size,0,none⟩=some (.slice (some ad0) (a1.size+1) cm)∧W'.cell? ⟨w2.heap.size+1,0,none⟩=some (.slice Ab (a1.size+1) cb)):=⟨fun W' h=>by have hh:=HBX.out W' ((HQ4.out.mono (by omega)).trans (h.mono (by omega)));exact ⟨box_at hh.1,box_at hh.2⟩⟩
    have HC4:Zz (∀ W',Below w4.heap.size w4 W'→Kd.C (Kd.int .i64) W' (some ad0) (a1.size+1) m∧Kd.C (Kd.int .i64) W' Ab (a1.size+1) b):=⟨fun W' h=>by
      have hh:Below w2.heap.size w2 W':=HQ3.out.trans ((HQ4.out.mono (by omega)).trans (h.mono (by omega)))
      have h1:=Kd.C_below HCM.out hh
      have h2:=Kd.C_below HCB.out hh
      rw [hlm] at h1
      rw [hlb] at h2
      exact ⟨h1,h2⟩⟩
    have hsl:=standW_length ws a1
    have HR4:Zz (∀ pos:Nat,pos≤a1.size→∃ ad A2 c2,A4=some ad∧w4.cell? (ad.add pos)=some (.slice A2 (rowAt ws a1 pos).length c2)∧(rowAt ws a1 pos).length≤c2∧Kd.C (Kd.int .i64) w4 A2 (rowAt ws a1 pos).length (rowAt ws a1 pos)):=⟨fun pos hpos=>by
      obtain ⟨ad,A2,c2,e1,hx,hl,hi⟩:=at_L9 (Kd.S_reads' HS.out).2.2 (pos:Int) (by omega) (by omega)
      rw [stand_at ws a1 pos hpos] at hx hl hi
      simp only [Int.toNat_natCast] at hx
      exact ⟨ad,A2,c2,e1,hx,hl,hi⟩⟩
    have HBelow4:Zz (Below w.heap.size w w4):=⟨HB0.out.trans (HB4.out.mono (by omega))⟩
    have HBS0:Zz (BS w4.heap.size (w4.heap.size+1) (w4.heap.size+1+1) w4.heap.size [] w4 (((w4.alloc (.cells #[] 9)).alloc (.cells #[.slice (some ⟨w4.heap.size,0,none⟩) 0 0] 43)).alloc (.cells #[.int .i64 0] 3)) [] 0):=⟨by
      have b1:=Boxed.new (w4.alloc (.cells #[] 9)) 43 (.slice (some ⟨w4.heap.size,0,none⟩) 0 0)
      have b2:=Boxed.new ((w4.alloc (.cells #[] 9)).alloc (.cells #[.slice (some ⟨w4.heap.size,0,none⟩) 0 0] 43)) 3 (.int .i64 0)
      simp only [World.size_alloc] at b1 b2
      have o1:(w4.alloc (.cells #[] 9)).ownsRow w4.heap.size 9 1 (.slice (some ⟨w4.heap.size,0,none⟩) 0 0) 0 []:=⟨by simp,.inr ⟨w4.heap.size,0,#[],rfl,Nat.le_refl _,World.alloc_heap_new w4 _,Nat.le_refl _,by unfold maxLen;omega,by simp,by simp⟩⟩
      exact ⟨((((Below.refl _ w4).alloc (Nat.le_refl _) _).alloc (by simp) _).alloc (by simp;omega) _),⟨_,b1.alloc _,(o1.alloc _).alloc _⟩,b2,⟨fun d hd=>by simp at hd,List.Pairwise.nil⟩,by omega,by omega,by simp;omega,Nat.le_refl _,Nat.le_refl _⟩⟩
    clear HR0 HC0 HX HB0 HK0 hx1 hx2 hy1 h0b hc0 HB2 HQ1 HQ2 HQ3 HQ4 HCM HCB HBX HB3 HS HSF HSP HB4 hs2 hs3 hs4 q0 q1 q2 h0
    generalize (((w4.alloc (.cells #[] 9)).alloc (.cells #[.slice (some ⟨w4.heap.size,0,none⟩) 0 0] 43)).alloc (.cells #[.int .i64 0] 3))=W5 at HBS0 ⊢
    refine wpIn_loop (fun act W=>∃ (pos:Nat) (out:List ByteArray) (ga bd k:Nat) (ds:List Deferred) (u11 u12 u13 u14 u15 u16 u17 u18 u19 u20 u21 u22 u23 u24 u25 u26 u27 u28 u29 u30 u31 u32 u33 u34 u35 u36 u37 u38 u39 u40 u41 u42 u43 u44 u45 u46 u47 u48 u49 u50 u51 u52 u53 u54 u55 u56 u57 u58 u59 u60 u61 u62 u63 u64 u65 u66 u67 u68 u69 u70 u71 u72 u73 u74 u75 u76:Value),act={ tmps:=#[.agg #[.slice A0_0 (trieW ws).length c0_0],.string a1,.pointer (some ⟨w.heap.size,0,none⟩),.pointer (some ⟨w.heap.size+1,0,none⟩),.slice none 0 0,.bool false,.pointer (some ⟨w2.heap.size,0,none⟩),.pointer (some ⟨w2.heap.size+1,0,none⟩),.slice A4 (standW ws a1).length c4,.pointer (some ⟨w4.heap.size+1,0,none⟩),.pointer (some ⟨ga,0,none⟩),u11,u12,u13,u14,u15,u16,u17,u18,u19,u20,u21,u22,u23,u24,u25,u26,u27,u28,u29,u30,u31,u32,u33,u34,u35,u36,u37,u38,u39,u40,u41,u42,u43,u44,u45,u46,u47,u48,u49,u50,u51,u52,u53,u54,u55,u56,u57,u58,u59,u60,u61,u62,u63,u64,u65,u66,u67,u68,u69,u70,u71,u72,u73,u74,u75,u76],defers:=ds }∧pos≤a1.size∧Zz (BS w4.heap.size (w4.heap.size+1) ga bd ds w4 W out pos)∧Zz (a1.size - pos≤k∧bestF ws a1 m b k pos out=r1)∧Zz (rd m (pos:Int) ≠ 0)∧Zz (out.length≤pos))
      (fun act W=>a1.size - posAt (act.tmps.getD 10 undef) W)
      ⟨0,[],_,_,a1.size,[],_,_,_,_,_,_,_,_,_,_,_,_,_,_,_,_,_,_,_,_,_,_,_,_,_,_,_,_,_,_,_,_,_,_,_,_,_,_,_,_,_,_,_,_,_,_,_,_,_,_,_,_,_,_,_,_,_,_,_,_,_,_,_,_,_,_,rfl,Nat.zero_le _,HBS0,⟨⟨Nat.le_refl _,HE1.out⟩⟩,HN0,⟨Nat.le_refl _⟩⟩ ?_
    clear HBS0 W5 HE1 HN0
    rintro act W ⟨pos,out,ga,bd,k,ds,u11,u12,u13,u14,u15,u16,u17,u18,u19,u20,u21,u22,u23,u24,u25,u26,u27,u28,u29,u30,u31,u32,u33,u34,u35,u36,u37,u38,u39,u40,u41,u42,u43,u44,u45,u46,u47,u48,u49,u50,u51,u52,u53,u54,u55,u56,u57,u58,u59,u60,u61,u62,u63,u64,u65,u66,u67,u68,u69,u70,u71,u72,u73,u74,u75,u76,rfl,hpos,HBS,HK,HN,HO⟩
    have hcp:=HBS.out.pos.cell
    have hcs:=HX4.out W HBS.out.below
    by_cases hlt:pos<a1.size
    case neg =>
      obtain rfl:pos=a1.size:=by omega
      obtain ⟨v,hvb,hvr⟩:=HBS.out.box
      have hvc:=hvb.cell
      have HVR:=Zz.mk hvr
      clear hvr
      have hnl:¬ ((a1.size:Int)<(a1.size:Int)):=by omega
      gi_wp2
      refine leave_marks (fun X=>X.ownsRow w4.heap.size 9 1 v out.length (out.map Value.string)∧Below w4.heap.size w4 X) w4.heap.size bd (fun X D hX hD hk=>⟨ownsRow_putObj hX.1 _ hk rfl,hX.2.trans (belowK_b (w:=w4) (Nat.le_refl _) X D _ _ hD hk rfl rfl)⟩) (fun X hX=>⟨_,results_tmp2 rfl _ _ _,v,rfl,?_,HBelow4.out.trans (hX.2.mono (by have:=HBelow4.out.size;omega))⟩) ds W HBS.out.marks ⟨HVR.out,HBS.out.below⟩
      have hr:r1=out:=by
        have h2:=HK.out.2
        cases k with
        | zero=>exact h2.symm
        | succ k=>rw [bestF,if_neg (by omega)] at h2;exact h2.symm
      rw [hr]
      exact R_of_owns (own_weaken hX.1 (by have:=HBelow4.out.size;omega)) (fun _ _=>trivial)
    obtain ⟨ad,A2,c2,e1,hcell,hle,hC⟩:=HR4.out pos hpos
    cases e1
    have hx:=pw_cell_below HBS.out.below hcell
    have hrl:=HRL.out pos
    have HM:Zz (∀ n ∈ rowAt ws a1 pos,1≤n∧n+pos≤a1.size):=⟨fun n hn=>rowAt_mem hn⟩
    have HCR:Zz (∀ W',Below w4.heap.size w4 W'→Kd.C (Kd.int .i64) W' A2 (rowAt ws a1 pos).length (rowAt ws a1 pos)):=⟨fun W' h=>Kd.C_below hC h⟩
    have hs5:w4.heap.size≤W.heap.size:=HBS.out.below.size
    have hbd:=HBS.out.hb
    clear hC hcell
    gi_wp2_with (gi_at_call 37;refine (HW (backward_calls A2 _ c2 _)).mono ?_;rintro e w' ⟨rfl,rfl⟩)
    clear hx hcp hcs hsl
    refine wpIn_rangeFunc_ownG (F:=F) hro (by omega) (gf:=51) (lb:=#[.pointer (some ⟨W.heap.size,0,none⟩)]) rfl (HFN.out _) (enters_of Tryz.func51 (by kernel_rfl) rfl)
      (backward_stops F (9 - 1) (HFN.out _) hro (by omega) W.heap.size (W.heap.size+1) c2 A2 (rowAt ws a1 pos) (by omega) (W.alloc (.cells #[.slice A2 (rowAt ws a1 pos).length c2] 38)) (by omega) (by simp) (box_at (World.alloc_heap_new W _)) (fun W' hW'=>HCR.out W' ((HBS.out.below.alloc hs5 _).trans (hW'.mono (by omega)))))
      belowK_t (belowK_b (by simp)) (Below.refl _ _) (fun _=>rfl)
      (fun pre W'=>BS w4.heap.size (w4.heap.size+1) ga bd ds w4 W' out pos∧∀ x ∈ pre,okN m b pos x.val.1=false)
      (fun c pre W'=>c=.exit 2∧∃ (ini:List (Bk (rowAt ws a1 pos))) (x:Bk (rowAt ws a1 pos)),pre=ini ++ [x]∧(∀ y ∈ ini,okN m b pos y.val.1=false)∧okN m b pos x.val.1=true∧BS w4.heap.size (w4.heap.size+1) ga bd ds w4 W' (out ++ [a1.extract pos (pos+x.val.1.toNat)]) (pos+x.val.1.toNat))
      (fun s X Y row hs hg hr=>⟨hs.1.own (by simp;omega) hg hr,hs.2⟩)
      (fun c s X Y row hs hg hr=>by obtain ⟨h1,ini,x,h2,h3,h4,h5⟩:=hs;exact ⟨h1,ini,x,h2,h3,h4,h5.own (by simp;omega) hg hr⟩)
      ⟨HBS.out.own (Nat.le_refl _) (World.grownBy_alloc W _ none) (by simp),by simp⟩
      (fun x=>{ tmps:=#[.agg #[.slice A0_0 (trieW ws).length c0_0],.string a1,.pointer (some ⟨w.heap.size,0,none⟩),.pointer (some ⟨w.heap.size+1,0,none⟩),.slice none 0 0,.bool false,.pointer (some ⟨w2.heap.size,0,none⟩),.pointer (some ⟨w2.heap.size+1,0,none⟩),.slice (some ad) (standW ws a1).length c4,.pointer (some ⟨w4.heap.size+1,0,none⟩),.pointer (some ⟨ga,0,none⟩),u11,.int .i64 x.val.1,u13,u14,u15,u16,u17,u18,u19,u20,u21,u22,u23,u24,u25,u26,u27,u28,u29,u30,.int .i64 (pos:Int),.string a1,.int .i64 (a1.size:Int),.bool true,.slice (some ad) (standW ws a1).length c4,.int .i64 (pos:Int),.pointer (some (ad.add pos)),.slice A2 (rowAt ws a1 pos).length c2,.func (.func 51) #[] #[.pointer (some ⟨W.heap.size,0,none⟩)],.int .i64 (x.val.2:Int),.int .i64 x.val.1,u42,u43,u44,u45,u46,u47,u48,u49,u50,u51,u52,u53,u54,u55,u56,u57,u58,u59,u60,u61,u62,u63,u64,u65,u66,u67,u68,u69,u70,u71,u72,u73,u74,u75,u76],defers:=[] }) ?assign ?body ?done ?stop
    case assign =>
      intro l x W' K hK
      gi_wp2
      rw [standW_length] at hK
      exact hK
    case body =>
      rintro l pre x W' ⟨hB,hno⟩ hlt'
      have hmk:=HM.out _ (backA_mem _ x)
      obtain ⟨q,hq⟩:∃ q:Nat,x.val.1=(q:Int):=⟨x.val.1.toNat,by omega⟩
      have HQ:=Zz.mk hq
      have HNO:=Zz.mk hno
      have HB:=Zz.mk hB
      rw [hq] at hmk ⊢
      clear hq hno hlt'
      have hcp:=hB.pos.cell
      have hcs:=HX4.out W' hB.below
      obtain ⟨hm1,hm2⟩:=HM4.out W' hB.below
      obtain ⟨hCm,hCb⟩:=HC4.out W' hB.below
      clear hB
      have ecast:((pos+q:Nat):Int)=(pos:Int)+(q:Int):=by omega
      obtain ⟨adm,em,hcm⟩:=Kd.at_int hCm ((pos+q:Nat):Int) (by omega) (by omega)
      cases em
      obtain ⟨adb,eb,hcb1⟩:=Kd.at_int hCb ((pos+q:Nat):Int) (by omega) (by omega)
      cases eb
      obtain ⟨adb2,eb,hcb2⟩:=Kd.at_int hCb (pos:Int) (by omega) (by omega)
      cases eb
      rw [Int.toNat_natCast,ecast] at hcm hcb1
      rw [Int.toNat_natCast] at hcb2
      clear hCm hCb ecast
      have hwr:IntKind.i64.wrap ((pos:Int)+(q:Int))=((pos+q:Nat):Int):=by rw [i64_w];unfold wrap64;omega
      have hmix:Tryz.prog.follows .mixedOrders=true:=by kernel_rfl
      by_cases h1:0<rd m ((pos:Int)+(q:Int))
      · have h1b:=decide_eq_true h1
        by_cases h2:rd b ((pos:Int)+(q:Int))=wrap64 (rd b (pos:Int) - 1)
        · have h2b:=beq_iff_eq.2 h2
          gi_wp2
          refine quiet_round hro hmix (by kernel_rfl) (by kernel_rfl) ?_
          repeat (gi_big_quiet_step (fail))
          refine wpQuietIn_nil ?_
          intro _ hw'
          obtain ⟨nq,hw''⟩:=hw'
          subst hw''
          have hok:okN m b pos (q:Int)=true:=by unfold okN;rw [Bool.and_eq_true];exact ⟨h1b,h2b⟩
          gi_wp2
          have HB2:=Zz.mk ((HB.out.drewN nq).drew)
          clear hcp hcs hm1 hm2 hcm hcb1 hcb2 h1 h2 h1b h2b
          refine wpIn_region_any hmix (anyIn_round hro (noDefer_all (by kernel_rfl)) _ _ _ _ ?_)
          change wpAnyIn _ _ _ _ _ _ 10 #[false,false,false,false,false,false,false,false,false,false] _ (World.drew (W'.drewN nq))
          have HKO:Zz (KeepsOthers W' (World.drew (W'.drewN nq))):=⟨⟨Nat.le_refl _,fun _ _ h _=>h⟩⟩
          generalize World.drew (W'.drewN nq)=W2 at HB2 HKO ⊢
          obtain ⟨v,hvb,hvr⟩:=HB2.out.box
          have HVB:=Zz.mk hvb
          have HVR:=Zz.mk hvr
          have hcv:=hvb.cell
          have hcv2:∀ o,(W2.alloc o).cell? ⟨w4.heap.size+1,0,none⟩=some v:=fun o=>(hvb.alloc o).cell
          have hcp:=HB2.out.pos.cell
          have hcs:=HX4.out W2 HB2.out.below
          clear hvb hvr
          have hslw:∀ w',(Instr.slice 9 (.string a1) (some (.int .i64 (pos:Int))) (some (.int .i64 ((pos:Int)+(q:Int)))) none).run Tryz.prog w'=.ok (.string (a1.extract pos (pos+q))) w':=fun w'=>by rw [run_slice_string w' _ _ _ _ _ _ Tryz.underlying9 (by omega) (by omega) (by omega),Int.toNat_natCast,show ((pos:Int)+(q:Int)).toNat=pos+q by omega]
          apply by_key0
          · intro keyC
            apply by_key0
            · intro keyA
              apply by_key0
              · intro keyB
                refine wpAnyIn_take (i:=4) (v:=?_) hro rfl (by kernel_rfl) (by kernel_rfl) (by kernel_rfl) (fun _ _ _ h=>h) ⟨Or.inl ⟨by rfl,?hy1⟩,fun _=>rfl⟩ ?_
                case hy1=>intro w';first|(go_simp;done)|(go_simp;with_reducible rfl)
                refine wpAnyIn_ready (rs:=[0,1,2,3]) (by kernel_rfl) (by simp) ?_
                refine AllReadyIn.cons rfl (fun K hK=>?_) ?_
                · go_simp
                  refine hK _ _ ?_
                  clear hK K
                  refine wpAnyIn_ready (rs:=[1,2,3]) (by kernel_rfl) (by simp) ?_
                  refine AllReadyIn.cons rfl (fun K hK=>?_) ?_
                  · go_simp
                    refine hK _ _ ?_
                    clear hK K
                    refine wpAnyIn_ready (rs:=[2,3]) (by kernel_rfl) (by simp) ?_
                    refine AllReadyIn.cons rfl (fun K hK=>?_) ?_
                    · go_simp
                      refine hK _ _ ?_
                      clear hK K
                      refine wpAnyIn_ready (rs:=[3]) (by kernel_rfl) (by simp) ?_
                      refine AllReadyIn.cons rfl (fun K hK=>?_) ?_
                      · go_simp
                        refine hK _ _ ?_
                        clear hK K
                        refine wpAnyIn_take (i:=5) (v:=?_) hro rfl (by kernel_rfl) (by kernel_rfl) (by kernel_rfl) (fun _ _ _ h=>h) ⟨Or.inl ⟨by rfl,?hy2⟩,fun _=>rfl⟩ ?_
                        case hy2=>intro w';first|(go_simp;done)|(go_simp;with_reducible rfl)
                        refine wpAnyIn_take (i:=6) (v:=?_) hro rfl (by kernel_rfl) (by kernel_rfl) (by kernel_rfl) (fun _ _ _ h=>h) ⟨Or.inl ⟨by rfl,?hy3⟩,fun _=>rfl⟩ ?_
                        case hy3=>intro w';first|(go_simp;done)|(go_simp;with_reducible rfl)
                        try simp only [Act.put,List.setIfInBounds_toArray,List.set_cons_zero,List.set_cons_succ]
                        exact keyA.out
                      exact AllReadyIn.nil
                    refine AllReadyIn.cons rfl (fun K hK=>?_) ?_
                    · go_simp
                      refine hK _ _ ?_
                      clear hK K
                      refine wpAnyIn_take (i:=5) (v:=?_) hro rfl (by kernel_rfl) (by kernel_rfl) (by kernel_rfl) (fun _ _ _ h=>h) ⟨Or.inl ⟨by rfl,?hy4⟩,fun _=>rfl⟩ ?_
                      case hy4=>intro w';first|(go_simp;done)|(go_simp;with_reducible rfl)
                      refine wpAnyIn_ready (rs:=[2]) (by kernel_rfl) (by simp) ?_
                      refine AllReadyIn.cons rfl (fun K hK=>?_) ?_
                      · go_simp
                        refine hK _ _ ?_
                        clear hK K
                        refine wpAnyIn_take (i:=6) (v:=?_) hro rfl (by kernel_rfl) (by kernel_rfl) (by kernel_rfl) (fun _ _ _ h=>h) ⟨Or.inl ⟨by rfl,?hy5⟩,fun _=>rfl⟩ ?_
                        case hy5=>intro w';first|(go_simp;done)|(go_simp;with_reducible rfl)
                        try simp only [Act.put,List.setIfInBounds_toArray,List.set_cons_zero,List.set_cons_succ]
                        exact keyA.out
                      exact AllReadyIn.nil
                    exact AllReadyIn.nil
                  refine AllReadyIn.cons rfl (fun K hK=>?_) ?_
                  · go_simp
                    refine hK _ _ ?_
                    clear hK K
                    refine wpAnyIn_ready (rs:=[1,3]) (by kernel_rfl) (by simp) ?_
                    refine AllReadyIn.cons rfl (fun K hK=>?_) ?_
                    · go_simp
                      refine hK _ _ ?_
                      clear hK K
                      refine wpAnyIn_ready (rs:=[3]) (by kernel_rfl) (by simp) ?_
                      refine AllReadyIn.cons rfl (fun K hK=>?_) ?_
                      · go_simp
                        refine hK _ _ ?_
                        clear hK K
                        refine wpAnyIn_take (i:=5) (v:=?_) hro rfl (by kernel_rfl) (by kernel_rfl) (by kernel_rfl) (fun _ _ _ h=>h) ⟨Or.inl ⟨by rfl,?hy6⟩,fun _=>rfl⟩ ?_
                        case hy6=>intro w';first|(go_simp;done)|(go_simp;with_reducible rfl)
                        refine wpAnyIn_take (i:=6) (v:=?_) hro rfl (by kernel_rfl) (by kernel_rfl) (by kernel_rfl) (fun _ _ _ h=>h) ⟨Or.inl ⟨by rfl,?hy7⟩,fun _=>rfl⟩ ?_
                        case hy7=>intro w';first|(go_simp;done)|(go_simp;with_reducible rfl)
                        try simp only [Act.put,List.setIfInBounds_toArray,List.set_cons_zero,List.set_cons_succ]
                        exact keyA.out
                      exact AllReadyIn.nil
                    refine AllReadyIn.cons rfl (fun K hK=>?_) ?_
                    · go_simp
                      refine hK _ _ ?_
                      clear hK K
                      refine wpAnyIn_take (i:=5) (v:=?_) hro rfl (by kernel_rfl) (by kernel_rfl) (by kernel_rfl) (fun _ _ _ h=>h) ⟨Or.inl ⟨by rfl,?hy8⟩,fun _=>rfl⟩ ?_
                      case hy8=>intro w';first|(go_simp;done)|(go_simp;with_reducible rfl)
                      refine wpAnyIn_ready (rs:=[1]) (by kernel_rfl) (by simp) ?_
                      refine AllReadyIn.cons rfl (fun K hK=>?_) ?_
                      · go_simp
                        refine hK _ _ ?_
                        clear hK K
                        refine wpAnyIn_take (i:=6) (v:=?_) hro rfl (by kernel_rfl) (by kernel_rfl) (by kernel_rfl) (fun _ _ _ h=>h) ⟨Or.inl ⟨by rfl,?hy9⟩,fun _=>rfl⟩ ?_
                        case hy9=>intro w';first|(go_simp;done)|(go_simp;with_reducible rfl)
                        try simp only [Act.put,List.setIfInBounds_toArray,List.set_cons_zero,List.set_cons_succ]
                        exact keyA.out
                      exact AllReadyIn.nil
                    exact AllReadyIn.nil
                  refine AllReadyIn.cons rfl (fun K hK=>?_) ?_
                  · go_simp
                    refine hK _ _ ?_
                    clear hK K
                    refine wpAnyIn_take (i:=5) (v:=?_) hro rfl (by kernel_rfl) (by kernel_rfl) (by kernel_rfl) (fun _ _ _ h=>h) ⟨Or.inl ⟨by rfl,?hy10⟩,fun _=>rfl⟩ ?_
                    case hy10=>intro w';first|(go_simp;done)|(go_simp;with_reducible rfl)
                    refine wpAnyIn_ready (rs:=[1,2]) (by kernel_rfl) (by simp) ?_
                    refine AllReadyIn.cons rfl (fun K hK=>?_) ?_
                    · go_simp
                      refine hK _ _ ?_
                      clear hK K
                      refine wpAnyIn_ready (rs:=[2]) (by kernel_rfl) (by simp) ?_
                      refine AllReadyIn.cons rfl (fun K hK=>?_) ?_
                      · go_simp
                        refine hK _ _ ?_
                        clear hK K
                        refine wpAnyIn_take (i:=6) (v:=?_) hro rfl (by kernel_rfl) (by kernel_rfl) (by kernel_rfl) (fun _ _ _ h=>h) ⟨Or.inl ⟨by rfl,?hy11⟩,fun _=>rfl⟩ ?_
                        case hy11=>intro w';first|(go_simp;done)|(go_simp;with_reducible rfl)
                        try simp only [Act.put,List.setIfInBounds_toArray,List.set_cons_zero,List.set_cons_succ]
                        exact keyA.out
                      exact AllReadyIn.nil
                    refine AllReadyIn.cons rfl (fun K hK=>?_) ?_
                    · go_simp
                      refine hK _ _ ?_
                      clear hK K
                      refine wpAnyIn_ready (rs:=[1]) (by kernel_rfl) (by simp) ?_
                      refine AllReadyIn.cons rfl (fun K hK=>?_) ?_
                      · go_simp
                        refine hK _ _ ?_
                        clear hK K
                        refine wpAnyIn_take (i:=6) (v:=?_) hro rfl (by kernel_rfl) (by kernel_rfl) (by kernel_rfl) (fun _ _ _ h=>h) ⟨Or.inl ⟨by rfl,?hy12⟩,fun _=>rfl⟩ ?_
                        case hy12=>intro w';first|(go_simp;done)|(go_simp;with_reducible rfl)
                        try simp only [Act.put,List.setIfInBounds_toArray,List.set_cons_zero,List.set_cons_succ]
                        exact keyA.out
                      exact AllReadyIn.nil
                    exact AllReadyIn.nil
                  exact AllReadyIn.nil
                refine AllReadyIn.cons rfl (fun K hK=>?_) ?_
                · go_simp
                  refine hK _ _ ?_
                  clear hK K
                  refine wpAnyIn_ready (rs:=[0,2,3]) (by kernel_rfl) (by simp) ?_
                  refine AllReadyIn.cons rfl (fun K hK=>?_) ?_
                  · go_simp
                    refine hK _ _ ?_
                    clear hK K
                    refine wpAnyIn_ready (rs:=[2,3]) (by kernel_rfl) (by simp) ?_
                    refine AllReadyIn.cons rfl (fun K hK=>?_) ?_
                    · go_simp
                      refine hK _ _ ?_
                      clear hK K
                      refine wpAnyIn_ready (rs:=[3]) (by kernel_rfl) (by simp) ?_
                      refine AllReadyIn.cons rfl (fun K hK=>?_) ?_
                      · go_simp
                        refine hK _ _ ?_
                        clear hK K
                        refine wpAnyIn_take (i:=5) (v:=?_) hro rfl (by kernel_rfl) (by kernel_rfl) (by kernel_rfl) (fun _ _ _ h=>h) ⟨Or.inl ⟨by rfl,?hy13⟩,fun _=>rfl⟩ ?_
                        case hy13=>intro w';first|(go_simp;done)|(go_simp;with_reducible rfl)
                        refine wpAnyIn_take (i:=6) (v:=?_) hro rfl (by kernel_rfl) (by kernel_rfl) (by kernel_rfl) (fun _ _ _ h=>h) ⟨Or.inl ⟨by rfl,?hy14⟩,fun _=>rfl⟩ ?_
                        case hy14=>intro w';first|(go_simp;done)|(go_simp;with_reducible rfl)
                        try simp only [Act.put,List.setIfInBounds_toArray,List.set_cons_zero,List.set_cons_succ]
                        exact keyA.out
                      exact AllReadyIn.nil
                    refine AllReadyIn.cons rfl (fun K hK=>?_) ?_
                    · go_simp
                      refine hK _ _ ?_
                      clear hK K
                      refine wpAnyIn_take (i:=5) (v:=?_) hro rfl (by kernel_rfl) (by kernel_rfl) (by kernel_rfl) (fun _ _ _ h=>h) ⟨Or.inl ⟨by rfl,?hy15⟩,fun _=>rfl⟩ ?_
                      case hy15=>intro w';first|(go_simp;done)|(go_simp;with_reducible rfl)
                      refine wpAnyIn_ready (rs:=[2]) (by kernel_rfl) (by simp) ?_
                      refine AllReadyIn.cons rfl (fun K hK=>?_) ?_
                      · go_simp
                        refine hK _ _ ?_
                        clear hK K
                        refine wpAnyIn_take (i:=6) (v:=?_) hro rfl (by kernel_rfl) (by kernel_rfl) (by kernel_rfl) (fun _ _ _ h=>h) ⟨Or.inl ⟨by rfl,?hy16⟩,fun _=>rfl⟩ ?_
                        case hy16=>intro w';first|(go_simp;done)|(go_simp;with_reducible rfl)
                        try simp only [Act.put,List.setIfInBounds_toArray,List.set_cons_zero,List.set_cons_succ]
                        exact keyA.out
                      exact AllReadyIn.nil
                    exact AllReadyIn.nil
                  refine AllReadyIn.cons rfl (fun K hK=>?_) ?_
                  · go_simp
                    refine hK _ _ ?_
                    clear hK K
                    refine wpAnyIn_ready (rs:=[0,3]) (by kernel_rfl) (by simp) ?_
                    refine AllReadyIn.cons rfl (fun K hK=>?_) ?_
                    · go_simp
                      refine hK _ _ ?_
                      clear hK K
                      refine wpAnyIn_ready (rs:=[3]) (by kernel_rfl) (by simp) ?_
                      refine AllReadyIn.cons rfl (fun K hK=>?_) ?_
                      · go_simp
                        refine hK _ _ ?_
                        clear hK K
                        refine wpAnyIn_take (i:=5) (v:=?_) hro rfl (by kernel_rfl) (by kernel_rfl) (by kernel_rfl) (fun _ _ _ h=>h) ⟨Or.inl ⟨by rfl,?hy17⟩,fun _=>rfl⟩ ?_
                        case hy17=>intro w';first|(go_simp;done)|(go_simp;with_reducible rfl)
                        refine wpAnyIn_take (i:=6) (v:=?_) hro rfl (by kernel_rfl) (by kernel_rfl) (by kernel_rfl) (fun _ _ _ h=>h) ⟨Or.inl ⟨by rfl,?hy18⟩,fun _=>rfl⟩ ?_
                        case hy18=>intro w';first|(go_simp;done)|(go_simp;with_reducible rfl)
                        try simp only [Act.put,List.setIfInBounds_toArray,List.set_cons_zero,List.set_cons_succ]
                        exact keyA.out
                      exact AllReadyIn.nil
                    refine AllReadyIn.cons rfl (fun K hK=>?_) ?_
                    · go_simp
                      refine hK _ _ ?_
                      clear hK K
                      refine wpAnyIn_take (i:=5) (v:=?_) hro rfl (by kernel_rfl) (by kernel_rfl) (by kernel_rfl) (fun _ _ _ h=>h) ⟨Or.inl ⟨by rfl,?hy19⟩,fun _=>rfl⟩ ?_
                      case hy19=>intro w';first|(go_simp;done)|(go_simp;with_reducible rfl)
                      refine wpAnyIn_take (i:=6) (v:=?_) hro rfl (by kernel_rfl) (by kernel_rfl) (by kernel_rfl) (fun _ _ _ h=>h) ⟨Or.inl ⟨by rfl,?hy20⟩,fun _=>rfl⟩ ?_
                      case hy20=>intro w';first|(go_simp;done)|(go_simp;with_reducible rfl)
                      try simp only [Act.put,List.setIfInBounds_toArray,List.set_cons_zero,List.set_cons_succ]
                      exact keyB.out
                    exact AllReadyIn.nil
                  refine AllReadyIn.cons rfl (fun K hK=>?_) ?_
                  · go_simp
                    refine hK _ _ ?_
                    clear hK K
                    refine wpAnyIn_take (i:=5) (v:=?_) hro rfl (by kernel_rfl) (by kernel_rfl) (by kernel_rfl) (fun _ _ _ h=>h) ⟨Or.inl ⟨by rfl,?hy21⟩,fun _=>rfl⟩ ?_
                    case hy21=>intro w';first|(go_simp;done)|(go_simp;with_reducible rfl)
                    refine wpAnyIn_ready (rs:=[0,2]) (by kernel_rfl) (by simp) ?_
                    refine AllReadyIn.cons rfl (fun K hK=>?_) ?_
                    · go_simp
                      refine hK _ _ ?_
                      clear hK K
                      refine wpAnyIn_ready (rs:=[2]) (by kernel_rfl) (by simp) ?_
                      refine AllReadyIn.cons rfl (fun K hK=>?_) ?_
                      · go_simp
                        refine hK _ _ ?_
                        clear hK K
                        refine wpAnyIn_take (i:=6) (v:=?_) hro rfl (by kernel_rfl) (by kernel_rfl) (by kernel_rfl) (fun _ _ _ h=>h) ⟨Or.inl ⟨by rfl,?hy22⟩,fun _=>rfl⟩ ?_
                        case hy22=>intro w';first|(go_simp;done)|(go_simp;with_reducible rfl)
                        try simp only [Act.put,List.setIfInBounds_toArray,List.set_cons_zero,List.set_cons_succ]
                        exact keyA.out
                      exact AllReadyIn.nil
                    refine AllReadyIn.cons rfl (fun K hK=>?_) ?_
                    · go_simp
                      refine hK _ _ ?_
                      clear hK K
                      refine wpAnyIn_take (i:=6) (v:=?_) hro rfl (by kernel_rfl) (by kernel_rfl) (by kernel_rfl) (fun _ _ _ h=>h) ⟨Or.inl ⟨by rfl,?hy23⟩,fun _=>rfl⟩ ?_
                      case hy23=>intro w';first|(go_simp;done)|(go_simp;with_reducible rfl)
                      try simp only [Act.put,List.setIfInBounds_toArray,List.set_cons_zero,List.set_cons_succ]
                      exact keyB.out
                    exact AllReadyIn.nil
                  exact AllReadyIn.nil
                refine AllReadyIn.cons rfl (fun K hK=>?_) ?_
                · go_simp
                  refine hK _ _ ?_
                  clear hK K
                  refine wpAnyIn_ready (rs:=[0,1,3]) (by kernel_rfl) (by simp) ?_
                  refine AllReadyIn.cons rfl (fun K hK=>?_) ?_
                  · go_simp
                    refine hK _ _ ?_
                    clear hK K
                    refine wpAnyIn_ready (rs:=[1,3]) (by kernel_rfl) (by simp) ?_
                    refine AllReadyIn.cons rfl (fun K hK=>?_) ?_
                    · go_simp
                      refine hK _ _ ?_
                      clear hK K
                      refine wpAnyIn_ready (rs:=[3]) (by kernel_rfl) (by simp) ?_
                      refine AllReadyIn.cons rfl (fun K hK=>?_) ?_
                      · go_simp
                        refine hK _ _ ?_
                        clear hK K
                        refine wpAnyIn_take (i:=5) (v:=?_) hro rfl (by kernel_rfl) (by kernel_rfl) (by kernel_rfl) (fun _ _ _ h=>h) ⟨Or.inl ⟨by rfl,?hy24⟩,fun _=>rfl⟩ ?_
                        case hy24=>intro w';first|(go_simp;done)|(go_simp;with_reducible rfl)
                        refine wpAnyIn_take (i:=6) (v:=?_) hro rfl (by kernel_rfl) (by kernel_rfl) (by kernel_rfl) (fun _ _ _ h=>h) ⟨Or.inl ⟨by rfl,?hy25⟩,fun _=>rfl⟩ ?_
                        case hy25=>intro w';first|(go_simp;done)|(go_simp;with_reducible rfl)
                        try simp only [Act.put,List.setIfInBounds_toArray,List.set_cons_zero,List.set_cons_succ]
                        exact keyA.out
                      exact AllReadyIn.nil
                    refine AllReadyIn.cons rfl (fun K hK=>?_) ?_
                    · go_simp
                      refine hK _ _ ?_
                      clear hK K
                      refine wpAnyIn_take (i:=5) (v:=?_) hro rfl (by kernel_rfl) (by kernel_rfl) (by kernel_rfl) (fun _ _ _ h=>h) ⟨Or.inl ⟨by rfl,?hy26⟩,fun _=>rfl⟩ ?_
                      case hy26=>intro w';first|(go_simp;done)|(go_simp;with_reducible rfl)
                      refine wpAnyIn_ready (rs:=[1]) (by kernel_rfl) (by simp) ?_
                      refine AllReadyIn.cons rfl (fun K hK=>?_) ?_
                      · go_simp
                        refine hK _ _ ?_
                        clear hK K
                        refine wpAnyIn_take (i:=6) (v:=?_) hro rfl (by kernel_rfl) (by kernel_rfl) (by kernel_rfl) (fun _ _ _ h=>h) ⟨Or.inl ⟨by rfl,?hy27⟩,fun _=>rfl⟩ ?_
                        case hy27=>intro w';first|(go_simp;done)|(go_simp;with_reducible rfl)
                        try simp only [Act.put,List.setIfInBounds_toArray,List.set_cons_zero,List.set_cons_succ]
                        exact keyA.out
                      exact AllReadyIn.nil
                    exact AllReadyIn.nil
                  refine AllReadyIn.cons rfl (fun K hK=>?_) ?_
                  · go_simp
                    refine hK _ _ ?_
                    clear hK K
                    refine wpAnyIn_ready (rs:=[0,3]) (by kernel_rfl) (by simp) ?_
                    refine AllReadyIn.cons rfl (fun K hK=>?_) ?_
                    · go_simp
                      refine hK _ _ ?_
                      clear hK K
                      refine wpAnyIn_ready (rs:=[3]) (by kernel_rfl) (by simp) ?_
                      refine AllReadyIn.cons rfl (fun K hK=>?_) ?_
                      · go_simp
                        refine hK _ _ ?_
                        clear hK K
                        refine wpAnyIn_take (i:=5) (v:=?_) hro rfl (by kernel_rfl) (by kernel_rfl) (by kernel_rfl) (fun _ _ _ h=>h) ⟨Or.inl ⟨by rfl,?hy28⟩,fun _=>rfl⟩ ?_
                        case hy28=>intro w';first|(go_simp;done)|(go_simp;with_reducible rfl)
                        refine wpAnyIn_take (i:=6) (v:=?_) hro rfl (by kernel_rfl) (by kernel_rfl) (by kernel_rfl) (fun _ _ _ h=>h) ⟨Or.inl ⟨by rfl,?hy29⟩,fun _=>rfl⟩ ?_
                        case hy29=>intro w';first|(go_simp;done)|(go_simp;with_reducible rfl)
                        try simp only [Act.put,List.setIfInBounds_toArray,List.set_cons_zero,List.set_cons_succ]
                        exact keyA.out
                      exact AllReadyIn.nil
                    refine AllReadyIn.cons rfl (fun K hK=>?_) ?_
                    · go_simp
                      refine hK _ _ ?_
                      clear hK K
                      refine wpAnyIn_take (i:=5) (v:=?_) hro rfl (by kernel_rfl) (by kernel_rfl) (by kernel_rfl) (fun _ _ _ h=>h) ⟨Or.inl ⟨by rfl,?hy30⟩,fun _=>rfl⟩ ?_
                      case hy30=>intro w';first|(go_simp;done)|(go_simp;with_reducible rfl)
                      refine wpAnyIn_take (i:=6) (v:=?_) hro rfl (by kernel_rfl) (by kernel_rfl) (by kernel_rfl) (fun _ _ _ h=>h) ⟨Or.inl ⟨by rfl,?hy31⟩,fun _=>rfl⟩ ?_
                      case hy31=>intro w';first|(go_simp;done)|(go_simp;with_reducible rfl)
                      try simp only [Act.put,List.setIfInBounds_toArray,List.set_cons_zero,List.set_cons_succ]
                      exact keyB.out
                    exact AllReadyIn.nil
                  refine AllReadyIn.cons rfl (fun K hK=>?_) ?_
                  · go_simp
                    refine hK _ _ ?_
                    clear hK K
                    refine wpAnyIn_take (i:=5) (v:=?_) hro rfl (by kernel_rfl) (by kernel_rfl) (by kernel_rfl) (fun _ _ _ h=>h) ⟨Or.inl ⟨by rfl,?hy32⟩,fun _=>rfl⟩ ?_
                    case hy32=>intro w';first|(go_simp;done)|(go_simp;with_reducible rfl)
                    refine wpAnyIn_ready (rs:=[0,1]) (by kernel_rfl) (by simp) ?_
                    refine AllReadyIn.cons rfl (fun K hK=>?_) ?_
                    · go_simp
                      refine hK _ _ ?_
                      clear hK K
                      refine wpAnyIn_ready (rs:=[1]) (by kernel_rfl) (by simp) ?_
                      refine AllReadyIn.cons rfl (fun K hK=>?_) ?_
                      · go_simp
                        refine hK _ _ ?_
                        clear hK K
                        refine wpAnyIn_take (i:=6) (v:=?_) hro rfl (by kernel_rfl) (by kernel_rfl) (by kernel_rfl) (fun _ _ _ h=>h) ⟨Or.inl ⟨by rfl,?hy33⟩,fun _=>rfl⟩ ?_
                        case hy33=>intro w';first|(go_simp;done)|(go_simp;with_reducible rfl)
                        try simp only [Act.put,List.setIfInBounds_toArray,List.set_cons_zero,List.set_cons_succ]
                        exact keyA.out
                      exact AllReadyIn.nil
                    refine AllReadyIn.cons rfl (fun K hK=>?_) ?_
                    · go_simp
                      refine hK _ _ ?_
                      clear hK K
                      refine wpAnyIn_take (i:=6) (v:=?_) hro rfl (by kernel_rfl) (by kernel_rfl) (by kernel_rfl) (fun _ _ _ h=>h) ⟨Or.inl ⟨by rfl,?hy34⟩,fun _=>rfl⟩ ?_
                      case hy34=>intro w';first|(go_simp;done)|(go_simp;with_reducible rfl)
                      try simp only [Act.put,List.setIfInBounds_toArray,List.set_cons_zero,List.set_cons_succ]
                      exact keyB.out
                    exact AllReadyIn.nil
                  exact AllReadyIn.nil
                refine AllReadyIn.cons rfl (fun K hK=>?_) ?_
                · go_simp
                  refine hK _ _ ?_
                  clear hK K
                  refine wpAnyIn_take (i:=5) (v:=?_) hro rfl (by kernel_rfl) (by kernel_rfl) (by kernel_rfl) (fun _ _ _ h=>h) ⟨Or.inl ⟨by rfl,?hy35⟩,fun _=>rfl⟩ ?_
                  case hy35=>intro w';first|(go_simp;done)|(go_simp;with_reducible rfl)
                  refine wpAnyIn_ready (rs:=[0,1,2]) (by kernel_rfl) (by simp) ?_
                  refine AllReadyIn.cons rfl (fun K hK=>?_) ?_
                  · go_simp
                    refine hK _ _ ?_
                    clear hK K
                    refine wpAnyIn_ready (rs:=[1,2]) (by kernel_rfl) (by simp) ?_
                    refine AllReadyIn.cons rfl (fun K hK=>?_) ?_
                    · go_simp
                      refine hK _ _ ?_
                      clear hK K
                      refine wpAnyIn_ready (rs:=[2]) (by kernel_rfl) (by simp) ?_
                      refine AllReadyIn.cons rfl (fun K hK=>?_) ?_
                      · go_simp
                        refine hK _ _ ?_
                        clear hK K
                        refine wpAnyIn_take (i:=6) (v:=?_) hro rfl (by kernel_rfl) (by kernel_rfl) (by kernel_rfl) (fun _ _ _ h=>h) ⟨Or.inl ⟨by rfl,?hy36⟩,fun _=>rfl⟩ ?_
                        case hy36=>intro w';first|(go_simp;done)|(go_simp;with_reducible rfl)
                        try simp only [Act.put,List.setIfInBounds_toArray,List.set_cons_zero,List.set_cons_succ]
                        exact keyA.out
                      exact AllReadyIn.nil
                    refine AllReadyIn.cons rfl (fun K hK=>?_) ?_
                    · go_simp
                      refine hK _ _ ?_
                      clear hK K
                      refine wpAnyIn_ready (rs:=[1]) (by kernel_rfl) (by simp) ?_
                      refine AllReadyIn.cons rfl (fun K hK=>?_) ?_
                      · go_simp
                        refine hK _ _ ?_
                        clear hK K
                        refine wpAnyIn_take (i:=6) (v:=?_) hro rfl (by kernel_rfl) (by kernel_rfl) (by kernel_rfl) (fun _ _ _ h=>h) ⟨Or.inl ⟨by rfl,?hy37⟩,fun _=>rfl⟩ ?_
                        case hy37=>intro w';first|(go_simp;done)|(go_simp;with_reducible rfl)
                        try simp only [Act.put,List.setIfInBounds_toArray,List.set_cons_zero,List.set_cons_succ]
                        exact keyA.out
                      exact AllReadyIn.nil
                    exact AllReadyIn.nil
                  refine AllReadyIn.cons rfl (fun K hK=>?_) ?_
                  · go_simp
                    refine hK _ _ ?_
                    clear hK K
                    refine wpAnyIn_ready (rs:=[0,2]) (by kernel_rfl) (by simp) ?_
                    refine AllReadyIn.cons rfl (fun K hK=>?_) ?_
                    · go_simp
                      refine hK _ _ ?_
                      clear hK K
                      refine wpAnyIn_ready (rs:=[2]) (by kernel_rfl) (by simp) ?_
                      refine AllReadyIn.cons rfl (fun K hK=>?_) ?_
                      · go_simp
                        refine hK _ _ ?_
                        clear hK K
                        refine wpAnyIn_take (i:=6) (v:=?_) hro rfl (by kernel_rfl) (by kernel_rfl) (by kernel_rfl) (fun _ _ _ h=>h) ⟨Or.inl ⟨by rfl,?hy38⟩,fun _=>rfl⟩ ?_
                        case hy38=>intro w';first|(go_simp;done)|(go_simp;with_reducible rfl)
                        try simp only [Act.put,List.setIfInBounds_toArray,List.set_cons_zero,List.set_cons_succ]
                        exact keyA.out
                      exact AllReadyIn.nil
                    refine AllReadyIn.cons rfl (fun K hK=>?_) ?_
                    · go_simp
                      refine hK _ _ ?_
                      clear hK K
                      refine wpAnyIn_take (i:=6) (v:=?_) hro rfl (by kernel_rfl) (by kernel_rfl) (by kernel_rfl) (fun _ _ _ h=>h) ⟨Or.inl ⟨by rfl,?hy39⟩,fun _=>rfl⟩ ?_
                      case hy39=>intro w';first|(go_simp;done)|(go_simp;with_reducible rfl)
                      try simp only [Act.put,List.setIfInBounds_toArray,List.set_cons_zero,List.set_cons_succ]
                      exact keyB.out
                    exact AllReadyIn.nil
                  refine AllReadyIn.cons rfl (fun K hK=>?_) ?_
                  · go_simp
                    refine hK _ _ ?_
                    clear hK K
                    refine wpAnyIn_ready (rs:=[0,1]) (by kernel_rfl) (by simp) ?_
                    refine AllReadyIn.cons rfl (fun K hK=>?_) ?_
                    · go_simp
                      refine hK _ _ ?_
                      clear hK K
                      refine wpAnyIn_ready (rs:=[1]) (by kernel_rfl) (by simp) ?_
                      refine AllReadyIn.cons rfl (fun K hK=>?_) ?_
                      · go_simp
                        refine hK _ _ ?_
                        clear hK K
                        refine wpAnyIn_take (i:=6) (v:=?_) hro rfl (by kernel_rfl) (by kernel_rfl) (by kernel_rfl) (fun _ _ _ h=>h) ⟨Or.inl ⟨by rfl,?hy40⟩,fun _=>rfl⟩ ?_
                        case hy40=>intro w';first|(go_simp;done)|(go_simp;with_reducible rfl)
                        try simp only [Act.put,List.setIfInBounds_toArray,List.set_cons_zero,List.set_cons_succ]
                        exact keyA.out
                      exact AllReadyIn.nil
                    refine AllReadyIn.cons rfl (fun K hK=>?_) ?_
                    · go_simp
                      refine hK _ _ ?_
                      clear hK K
                      refine wpAnyIn_take (i:=6) (v:=?_) hro rfl (by kernel_rfl) (by kernel_rfl) (by kernel_rfl) (fun _ _ _ h=>h) ⟨Or.inl ⟨by rfl,?hy41⟩,fun _=>rfl⟩ ?_
                      case hy41=>intro w';first|(go_simp;done)|(go_simp;with_reducible rfl)
                      try simp only [Act.put,List.setIfInBounds_toArray,List.set_cons_zero,List.set_cons_succ]
                      exact keyB.out
                    exact AllReadyIn.nil
                  exact AllReadyIn.nil
                exact AllReadyIn.nil
              · skip
                refine wpAnyIn_ready (rs:=[0,7]) (by kernel_rfl) (by simp) ?_
                refine AllReadyIn.cons rfl (fun K hK=>?_) ?_
                · go_simp
                  refine hK _ _ ?_
                  clear hK K
                  try simp only [Act.put,List.setIfInBounds_toArray,List.set_cons_zero,List.set_cons_succ]
                  exact keyA.out
                refine AllReadyIn.cons rfl (fun K hK=>?_) ?_
                · go_simp
                  refine hK _ _ ?_
                  clear hK K
                  refine wpAnyIn_ready (rs:=[0]) (by kernel_rfl) (by simp) ?_
                  refine AllReadyIn.cons rfl (fun K hK=>?_) ?_
                  · go_simp
                    refine hK _ _ ?_
                    clear hK K
                    try simp only [Act.put,List.setIfInBounds_toArray,List.set_cons_zero,List.set_cons_succ]
                    exact keyC.out
                  exact AllReadyIn.nil
                exact AllReadyIn.nil
            · skip
              refine wpAnyIn_ready (rs:=[7]) (by kernel_rfl) (by simp) ?_
              refine AllReadyIn.cons rfl (fun K hK=>?_) ?_
              · go_simp
                refine hK _ _ ?_
                clear hK K
                try simp only [Act.put,List.setIfInBounds_toArray,List.set_cons_zero,List.set_cons_succ]
                exact keyC.out
              exact AllReadyIn.nil
          · skip
            obtain ⟨i0,hi,hz0,hz1,hz2⟩:=info_parts infoS
            have HI0:=Zz.mk hi
            have HZ0:=Zz.mk hz0
            have HZ1:=Zz.mk hz1
            have HZ2:=Zz.mk hz2
            clear hi hz0 hz1 hz2 hcv hcv2 hcp hcs hslw
            refine wpAnyIn_ready (rs:=[8]) (by kernel_rfl) (by simp) ?_
            refine AllReadyIn.cons rfl (fun K hK=>?_) AllReadyIn.nil
            refine Eq.mpr (if_pos rfl) ?_
            refine op_append _ (.tmp 63) (.tmp 70) 43 rfl w4.heap.size 9 i0 (.string ⟨#[]⟩) 16 Tryz.underlying43 HI0.out HZ0.out HZ1.out HZ2.out rfl v out.length (out.map Value.string) rfl (HVR.out.alloc _) ⟨W2.heap.size,0,none⟩ 1 (.string (a1.extract pos (pos+q))) rfl (cell_one_new _ _ _) rfl (by unfold maxLen;have:=HO.out;omega) (by have:=HO.out;omega) (by have:=HB2.out.below.size;simp;omega) ?_
            intro v' w1 hown' hgrow
            obtain ⟨g',cap',rfl⟩:=ownsRow_succ hown'
            obtain ⟨hv1,hBS,hko⟩:=HB2.out.push HVB.out HVR.out hown' hgrow
            have hc1:=hv1.cell
            have hf1:=hv1.frozen
            have HB3:=Zz.mk hBS
            have HK3:=Zz.mk hko
            clear hko hBS hown' hgrow hv1
            refine hK _ _ ?_
            clear hK K
            try simp only [Act.put,List.setIfInBounds_toArray,List.set_cons_zero,List.set_cons_succ]
            refine wpAnyIn_ready (rs:=[9]) (by kernel_rfl) (by simp) ?_
            refine AllReadyIn.cons rfl (fun K hK=>?_) AllReadyIn.nil
            go_simp
            refine hK _ _ ?_
            clear hK K hc1 hf1
            refine wpAnyIn_done (by kernel_rfl) ?_ _
            try simp only [Act.put,List.setIfInBounds_toArray,List.set_cons_zero,List.set_cons_succ]
            generalize w1.setCell ⟨w4.heap.size+1,0,none⟩ _=W3 at HB3 HK3 ⊢
            have hcp:=HB3.out.pos.cell
            have hfp:=HB3.out.pos.frozen
            gi_wp2
            refine ⟨((HKO.out.trans HK3.out).trans (KeepsOthers.setCell W3 ⟨ga,0,none⟩ _)).from _,rfl,pre,x,rfl,HNO.out,?_,?_⟩
            · rw [HQ.out];exact hok
            · rw [HQ.out]
              simp only [Int.toNat_natCast]
              have e:((pos+q:Nat):Int)=(pos:Int)+(q:Int):=by omega
              have h:=HB3.out.put (pos+q)
              rw [e] at h
              exact h
        · have h2b:=beq_eq_false_iff_ne.2 h2
          gi_wp2
          refine quiet_round hro hmix (by kernel_rfl) (by kernel_rfl) ?_
          repeat (gi_big_quiet_step (fail))
          refine wpQuietIn_nil ?_
          intro _ hw'
          obtain ⟨nq,hw''⟩:=hw'
          subst hw''
          have hok:okN m b pos (q:Int)=false:=by unfold okN;rw [Bool.and_eq_false_iff];exact .inr h2b
          gi_wp2
          refine ⟨⟨Nat.le_refl _,fun _ _ _ h _=>h⟩,qN (Below.refl _ W') _,HB.out.drewN _,fun y hy=>?_⟩
          rcases List.mem_append.1 hy with hy|hy
          · exact HNO.out y hy
          · rw [List.mem_singleton.1 hy,HQ.out];exact hok
      · have h1b:=decide_eq_false h1
        gi_wp2
        refine quiet_round hro hmix (by kernel_rfl) (by kernel_rfl) ?_
        repeat (gi_big_quiet_step (fail))
        refine wpQuietIn_nil ?_
        intro _ hw'
        obtain ⟨nq,hw''⟩:=hw'
        subst hw''
        have hok:okN m b pos (q:Int)=false:=by unfold okN;rw [Bool.and_eq_false_iff];exact .inl h1b
        gi_wp2
        refine ⟨⟨Nat.le_refl _,fun _ _ _ h _=>h⟩,qN (Below.refl _ W') _,HB.out.drewN _,fun y hy=>?_⟩
        rcases List.mem_append.1 hy with hy|hy
        · exact HNO.out y hy
        · rw [List.mem_singleton.1 hy,HQ.out];exact hok
    case done =>
      rintro D xs X hD rfl ⟨_,hno⟩ _
      exfalso
      obtain ⟨y,hy1,hy2⟩:=led_ok hp HF.out hlt HN.out
      have hy3:y ∈ (backA (rowAt ws a1 pos)).map (fun x=>x.val.1):=by rw [backA_fst];exact List.mem_reverse.2 hy1
      obtain ⟨x,hx,rfl⟩:=List.mem_map.1 hy3
      rw [hno x hx] at hy2;cases hy2
    case stop =>
      rintro D c pre X hD hpre ⟨rfl,ini,x,rfl,hi1,hi2,hB⟩ hDk
      have hmk:=HM.out _ (backA_mem _ x)
      obtain ⟨q,hq⟩:∃ q:Nat,x.val.1=(q:Int):=⟨x.val.1.toNat,by omega⟩
      rw [hq] at hmk hi2 hB
      simp only [Int.toNat_natCast] at hB
      have HPRE:=Zz.mk hpre
      have HI1:=Zz.mk hi1
      have HI2:=Zz.mk hi2
      have HB:=Zz.mk hB
      have HQ:=Zz.mk hq
      have HDK:=Zz.mk hDk
      have hcp:=hB.pos.cell
      clear hpre hi1 hi2 hB hq hDk
      gi_wp2
      rw [← standW_length ws a1]
      refine ⟨⟨pos+q,out ++ [a1.extract pos (pos+q)],X.heap.size,X.heap.size+1,k - 1,{ target:=.collected D,args:=#[] } :: ds,_,_,_,_,_,_,_,_,_,_,_,_,_,_,_,_,_,_,_,_,_,_,_,_,_,_,_,_,_,_,_,_,_,_,_,_,_,_,_,_,_,_,_,_,_,_,_,_,_,_,_,_,_,_,_,_,_,_,_,_,_,_,_,_,_,_,rfl,by omega,⟨HB.out.fresh D (by simp at hD;omega) (by simp at hD;omega) HDK.out _ (by omega)⟩,⟨by have:=HK.out.1;omega,?_⟩,⟨?_⟩,⟨by have:=HO.out;simp;omega⟩⟩,?_⟩
      · have hf:=find_back HPRE.out HI1.out (by rw [HQ.out];exact HI2.out)
        rw [HQ.out] at hf
        obtain ⟨hk1,hk2⟩:=HK.out
        cases k with
        | zero=>omega
        | succ k =>
          rw [bestF,if_pos hlt,hf] at hk2
          exact hk2
      · have ho:=HI2.out
        unfold okN at ho
        rw [Bool.and_eq_true,decide_eq_true_eq] at ho
        have ho1:=ho.1
        have e:((pos+q:Nat):Int)=(pos:Int)+(q:Int):=by omega
        rw [e]
        omega
      · show a1.size - posAt (.pointer (some ⟨X.heap.size,0,none⟩)) _<a1.size - posAt (.pointer (some ⟨ga,0,none⟩)) W
        rw [posAt_box (Boxed.new X 3 (.int .i64 ((pos:Int)+(q:Int)))),posAt_box HBS.out.pos]
        omega
end Go.Proofs.YtadpmgdmiaoniaaGreatDoor.Q
