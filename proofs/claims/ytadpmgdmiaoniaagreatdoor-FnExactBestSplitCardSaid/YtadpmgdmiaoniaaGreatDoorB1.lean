import Derived.Test.YtadpmgdmiaoniaaGreatDoorB0
import Derived.Test.YtadpmgdmiaoniaaGreatDoorBwWords
import Derived.Test.YtadpmgdmiaoniaaGreatDoorBwLast
import Derived.Test.YtadpmgdmiaoniaaGreatDoorBwTab
import Derived.Test.YtadpmgdmiaoniaaGreatDoorBwApart
import Derived.Test.YtadpmgdmiaoniaaGreatDoorBwFoot
import Derived.Test.YtadpmgdmiaoniaaGreatDoorBwKept
import Derived.Test.YtadpmgdmiaoniaaGreatDoorBwShare
import Derived.Test.YtadpmgdmiaoniaaGreatDoorBwN
import Derived.Test.YtadpmgdmiaoniaaGreatDoorBwAt
import Derived.Test.YtadpmgdmiaoniaaGreatDoorBwEqStruct
import Derived.Test.YtadpmgdmiaoniaaGreatDoorBwRepsOne
import Derived.Test.YtadpmgdmiaoniaaGreatDoorBwGuard
import Derived.Test.YtadpmgdmiaoniaaGreatDoorBwMore
import Derived.Test.YtadpmgdmiaoniaaGreatDoorProg
import Derived.Below
import Derived.Deep.Draws
import Derived.Deep.AppendLies
import Derived.Maps.AppendAt
import Derived.OwnWalk
import Derived.Laws.BytesArg
import Derived.Laws.MakeOwn
import Derived.Laws.OwnMore
import Derived.Deep.OwnRows
import Derived.Tactics
import Derived.Lib.ConvBytes
import Derived.Laws.Slices
import Derived.WalkKit
import Derived.KernelRfl
import Derived.RowKit3
import Derived.Deep.LoopGhost
import Derived.Deep.QuietTactic
import Derived.BigQuiet
import Derived.WideLaws
import Derived.Deep.DeepCutAuto
import Derived.Deep.CutBlock
import Derived.Deep.RegionHeld3
import Derived.Laws.Rows
import Derived.Lib.AppendStr
import Derived.ArgAppend
import Derived.Laws.IdiomCopy
import Derived.OrdersHeld
import Derived.Laws.BitsLemmas
import Derived.RowKit
set_option linter.unusedVariables false
set_option linter.unusedSimpArgs false
namespace Go.Proofs.YtadpmgdmiaoniaaGreatDoor.Q
open Go.RowKit Go.Proofs.YtadpmgdmiaoniaaGreatDoorW.PrintWords Go.Proofs.YtadpmgdmiaoniaaGreatDoorW.PrintLast Go.Proofs.YtadpmgdmiaoniaaGreatDoorW.PrintMore
attribute [local go_sem] run_field_23 run_field_24 run_field_30 run_field_31 isSome_setCell max2_int min2_int max_two min_two max_three min_three max_four min_four   -- for this text's walks alone
set_option linter.unusedVariables false
set_option linter.unusedSimpArgs false
def laws_eqTrie.f (k:Nat) (l0_0:List (S70)) (l1_0:List (S70)):Option (Bool):=(laws_eqNodeS.f k l0_0 l1_0).bind fun t170=>(if t170=true then (some true) else (some false))
set_option maxHeartbeats 8000000 in
set_option maxRecDepth 100000 in
theorem laws_eqTrie.calls (k:Nat) (A0_0:Option Addr) (c0_0:Nat) (l0_0:List (S70)) (A1_0:Option Addr) (c1_0:Nat) (l1_0:List (S70)) (r:Bool) (w:World) (hr0_0:Kd.C k70 w A0_0 l0_0.length l0_0) (hc0_0:l0_0.length≤c0_0) (hr1_0:Kd.C k70 w A1_0 l1_0.length l1_0) (hc1_0:l1_0.length≤c1_0) (h:laws_eqTrie.f k l0_0 l1_0=some r) :
  Calls Tryz.prog 11 #[.agg #[.slice A0_0 l0_0.length c0_0],.agg #[.slice A1_0 l1_0.length c1_0]] w fun e w'=>e=.returned (.bool r)∧Below w.heap.size w w':=by
 have hu31:=Tryz.underlying31
 have HR0_0:=Zz.mk hr0_0
 have HC0_0:=Zz.mk hc0_0
 clear hr0_0 hc0_0
 have HR1_0:=Zz.mk hr1_0
 have HC1_0:=Zz.mk hc1_0
 clear hr1_0 hc1_0
 have HB:=Zz.mk (Below.refl w.heap.size w)
 have H:((laws_eqNodeS.f k l0_0 l1_0).bind fun t170=>(if t170=true then (some true) else (some false)))=some r:=h
 clear h
 replace H:=Option.bind_eq_some_iff.mp H
 obtain ⟨t170,A30,H⟩:=H
 replace H:(if t170=true then (some true) else (some false))=some r:=H
 have A3:=Zz.mk A30
 clear A30
 by_cases c4:t170=true
 ·subst c4
  have H1:(some true)=some r:=by rw [if_pos rfl] at H;exact H
  clear H
  have H:=H1
  clear H1
  obtain rfl:=Option.some.inj H
  go_enter Tryz.func11,Tryz.ntmps11
  go_wp2_with (first|((with_reducible refine gate_dst (N:=2) rfl ?_);refine box_event ?hg (N:=2) ?hd (cs:=#[.slice A0_0 l0_0.length c0_0]) (t:=31) ?hr ?_;(case hd=>rfl);(case hg=>rfl);(case hr=>first|(go_simp;done)|(go_simp;rfl));intro gb168 hg w5 hbox hb;have n0_:=Zz.mk (qP (by repeat (first|(with_reducible first|exact HB.out|apply qA|apply qN|apply q1_)|exact HB.out)) hb);have n1_:=Zz.mk (hbox);have n2_:=Zz.mk ((by rw [hg];exact (qZ (by repeat (first|(with_reducible first|exact HB.out|apply qA|apply qN|apply q1_)|exact HB.out))):w.heap.size≤gb168));have n3_:=Zz.mk ((by rw [hg];exact (qZ (by repeat (first|(with_reducible first|exact HB.out|apply qA|apply qN|apply q1_)|exact HB.out))):w.heap.size≤gb168));clear HB;have HB:=n0_;have BK168:=n1_;have GW168:=n2_;have GE168:=n3_;clear n0_ n1_ n2_ n3_;clear hb hbox hg)|((with_reducible refine gate_dst (N:=3) rfl ?_);refine box_event ?hg (N:=3) ?hd (cs:=#[.slice A1_0 l1_0.length c1_0]) (t:=31) ?hr ?_;(case hd=>rfl);(case hg=>rfl);(case hr=>first|(go_simp;done)|(go_simp;rfl));intro gb169 hg w6 hbox hb;have n0_:=Zz.mk (bB (g:=gb168) (o:=.cells #[.slice A0_0 l0_0.length c0_0] 31 (0,0)) (by (with_reducible repeat first|apply bN|apply bD|apply bA);exact BK168.out) hb);have n1_:=Zz.mk (qP (by repeat (first|(with_reducible first|exact HB.out|apply qA|apply qN|apply q1_|refine qS ?_ GE168.out)|exact HB.out)) hb);have n2_:=Zz.mk (hbox);have n3_:=Zz.mk ((by rw [hg];exact (qZ (by repeat (first|(with_reducible first|exact HB.out|apply qA|apply qN|apply q1_|refine qS ?_ GE168.out)|exact HB.out))):w.heap.size≤gb169));have n4_:=Zz.mk ((by rw [hg];exact (qZ (by repeat (first|(with_reducible first|exact HB.out|apply qA|apply qN|apply q1_|refine qS ?_ GE168.out)|exact HB.out))):w.heap.size≤gb169));have n5_:=Zz.mk ((by rw [hg];exact Nat.ne_of_lt (blk_lt (g:=gb168) (o:=.cells #[.slice A0_0 l0_0.length c0_0] 31 (0,0)) (by (with_reducible repeat first|apply bN|apply bD|apply bA);exact BK168.out)):gb168 ≠ gb169));have n6_:=Zz.mk ((by rw [hg];exact Nat.ne_of_gt (blk_lt (g:=gb168) (o:=.cells #[.slice A0_0 l0_0.length c0_0] 31 (0,0)) (by (with_reducible repeat first|apply bN|apply bD|apply bA);exact BK168.out)):gb169 ≠ gb168));clear BK168;clear HB;have BK168:=n0_;have HB:=n1_;have BK169:=n2_;have GW169:=n3_;have GE169:=n4_;have NB168_169:=n5_;have NB169_168:=n6_;clear n0_ n1_ n2_ n3_ n4_ n5_ n6_;clear hb hbox hg;have hnb7:=NB168_169.out;have hnc7:=NB169_168.out;have hcz8_0:w6.cell? ⟨gb168,0,none⟩=some (.slice A0_0 l0_0.length c0_0):=(bC BK168.out 0).trans rfl;have hfz8_0:=bF BK168.out 0;have hcz9_0:w6.cell? ⟨gb169,0,none⟩=some (.slice A1_0 l1_0.length c1_0):=(bC BK169.out 0).trans rfl;have hfz9_0:=bF BK169.out 0)|((with_reducible refine gate_callee (f:=33) rfl ?_);refine goesL_ (some 9) rfl rfl Tryz.func33 (by kernel_rfl) rfl #[.slice A0_0 l0_0.length c0_0,.slice A1_0 l1_0.length c1_0] rfl (by (try simp only [List.map_toArray,List.map_cons,List.map_nil]);first|done|rfl|(simp only [List.length_drop,List.length_take];rfl)) ?_;(with_reducible refine (laws_eqNodeS.calls k _ _ l0_0 _ _ l1_0 true _ ?side1 ?side2 ?side3 ?side4 A3.out).mono ?_);(case side1=>repeat (first|exact (Kd.C_below HR0_0.out HB.out)|(with_reducible refine Kd.C_alloc ?_ _)|(with_reducible refine Kd.C_drewN ?_ _)|(with_reducible refine Kd.C_drew ?_)));(case side2=>exact HC0_0.out);(case side3=>repeat (first|exact (Kd.C_below HR1_0.out HB.out)|(with_reducible refine Kd.C_alloc ?_ _)|(with_reducible refine Kd.C_drewN ?_ _)|(with_reducible refine Kd.C_drew ?_)));(case side4=>exact HC1_0.out);rintro e w10 ⟨rfl,hb⟩;refine ⟨_,rfl,?_⟩;have n0_:=Zz.mk (bB (g:=gb168) (o:=.cells #[.slice A0_0 l0_0.length c0_0] 31 (0,0)) (by (with_reducible repeat first|apply bN|apply bD|apply bA);exact BK168.out) hb);have n1_:=Zz.mk (bB (g:=gb169) (o:=.cells #[.slice A1_0 l1_0.length c1_0] 31 (0,0)) (by (with_reducible repeat first|apply bN|apply bD|apply bA);exact BK169.out) hb);have n2_:=Zz.mk (qP (by repeat (first|(with_reducible first|exact HB.out|apply qA|apply qN|apply q1_|refine qS ?_ GE168.out|refine qS ?_ GE169.out)|exact HB.out)) hb);clear BK168;clear BK169;clear HB;have BK168:=n0_;have BK169:=n1_;have HB:=n2_;clear n0_ n1_ n2_;(try clear hb);(try clear hb2);(try clear hk);(try clear hi)))
  go_ret
  exact ⟨by first|rfl|(simp [errW_none,errW_some] <;> rfl)|(simp [*,errW_none,errW_some] <;> rfl),by repeat (first|(with_reducible first|exact HB.out|apply qA|apply qN|apply q1_|refine qS ?_ GE168.out|refine qS ?_ GE169.out)|exact HB.out)⟩
 ·replace c4:=Bool.eq_false_iff.mpr c4
  subst c4
  have H1:(some false)=some r:=by rw [if_neg (show ¬ (false=true) by decide)] at H;exact H
  clear H
  have H:=H1
  clear H1
  obtain rfl:=Option.some.inj H
  go_enter Tryz.func11,Tryz.ntmps11
  go_wp2_with (first|((with_reducible refine gate_dst (N:=2) rfl ?_);refine box_event ?hg (N:=2) ?hd (cs:=#[.slice A0_0 l0_0.length c0_0]) (t:=31) ?hr ?_;(case hd=>rfl);(case hg=>rfl);(case hr=>first|(go_simp;done)|(go_simp;rfl));intro gb168 hg w11 hbox hb;have n0_:=Zz.mk (qP (by repeat (first|(with_reducible first|exact HB.out|apply qA|apply qN|apply q1_)|exact HB.out)) hb);have n1_:=Zz.mk (hbox);have n2_:=Zz.mk ((by rw [hg];exact (qZ (by repeat (first|(with_reducible first|exact HB.out|apply qA|apply qN|apply q1_)|exact HB.out))):w.heap.size≤gb168));have n3_:=Zz.mk ((by rw [hg];exact (qZ (by repeat (first|(with_reducible first|exact HB.out|apply qA|apply qN|apply q1_)|exact HB.out))):w.heap.size≤gb168));clear HB;have HB:=n0_;have BK168:=n1_;have GW168:=n2_;have GE168:=n3_;clear n0_ n1_ n2_ n3_;clear hb hbox hg)|((with_reducible refine gate_dst (N:=3) rfl ?_);refine box_event ?hg (N:=3) ?hd (cs:=#[.slice A1_0 l1_0.length c1_0]) (t:=31) ?hr ?_;(case hd=>rfl);(case hg=>rfl);(case hr=>first|(go_simp;done)|(go_simp;rfl));intro gb169 hg w12 hbox hb;have n0_:=Zz.mk (bB (g:=gb168) (o:=.cells #[.slice A0_0 l0_0.length c0_0] 31 (0,0)) (by (with_reducible repeat first|apply bN|apply bD|apply bA);exact BK168.out) hb);have n1_:=Zz.mk (qP (by repeat (first|(with_reducible first|exact HB.out|apply qA|apply qN|apply q1_|refine qS ?_ GE168.out)|exact HB.out)) hb);have n2_:=Zz.mk (hbox);have n3_:=Zz.mk ((by rw [hg];exact (qZ (by repeat (first|(with_reducible first|exact HB.out|apply qA|apply qN|apply q1_|refine qS ?_ GE168.out)|exact HB.out))):w.heap.size≤gb169));have n4_:=Zz.mk ((by rw [hg];exact (qZ (by repeat (first|(with_reducible first|exact HB.out|apply qA|apply qN|apply q1_|refine qS ?_ GE168.out)|exact HB.out))):w.heap.size≤gb169));have n5_:=Zz.mk ((by rw [hg];exact Nat.ne_of_lt (blk_lt (g:=gb168) (o:=.cells #[.slice A0_0 l0_0.length c0_0] 31 (0,0)) (by (with_reducible repeat first|apply bN|apply bD|apply bA);exact BK168.out)):gb168 ≠ gb169));have n6_:=Zz.mk ((by rw [hg];exact Nat.ne_of_gt (blk_lt (g:=gb168) (o:=.cells #[.slice A0_0 l0_0.length c0_0] 31 (0,0)) (by (with_reducible repeat first|apply bN|apply bD|apply bA);exact BK168.out)):gb169 ≠ gb168));clear BK168;clear HB;have BK168:=n0_;have HB:=n1_;have BK169:=n2_;have GW169:=n3_;have GE169:=n4_;have NB168_169:=n5_;have NB169_168:=n6_;clear n0_ n1_ n2_ n3_ n4_ n5_ n6_;clear hb hbox hg;have hnb13:=NB168_169.out;have hnc13:=NB169_168.out;have hcz14_0:w12.cell? ⟨gb168,0,none⟩=some (.slice A0_0 l0_0.length c0_0):=(bC BK168.out 0).trans rfl;have hfz14_0:=bF BK168.out 0;have hcz15_0:w12.cell? ⟨gb169,0,none⟩=some (.slice A1_0 l1_0.length c1_0):=(bC BK169.out 0).trans rfl;have hfz15_0:=bF BK169.out 0)|((with_reducible refine gate_callee (f:=33) rfl ?_);refine goesL_ (some 9) rfl rfl Tryz.func33 (by kernel_rfl) rfl #[.slice A0_0 l0_0.length c0_0,.slice A1_0 l1_0.length c1_0] rfl (by (try simp only [List.map_toArray,List.map_cons,List.map_nil]);first|done|rfl|(simp only [List.length_drop,List.length_take];rfl)) ?_;(with_reducible refine (laws_eqNodeS.calls k _ _ l0_0 _ _ l1_0 false _ ?side1 ?side2 ?side3 ?side4 A3.out).mono ?_);(case side1=>repeat (first|exact (Kd.C_below HR0_0.out HB.out)|(with_reducible refine Kd.C_alloc ?_ _)|(with_reducible refine Kd.C_drewN ?_ _)|(with_reducible refine Kd.C_drew ?_)));(case side2=>exact HC0_0.out);(case side3=>repeat (first|exact (Kd.C_below HR1_0.out HB.out)|(with_reducible refine Kd.C_alloc ?_ _)|(with_reducible refine Kd.C_drewN ?_ _)|(with_reducible refine Kd.C_drew ?_)));(case side4=>exact HC1_0.out);rintro e w16 ⟨rfl,hb⟩;refine ⟨_,rfl,?_⟩;have n0_:=Zz.mk (bB (g:=gb168) (o:=.cells #[.slice A0_0 l0_0.length c0_0] 31 (0,0)) (by (with_reducible repeat first|apply bN|apply bD|apply bA);exact BK168.out) hb);have n1_:=Zz.mk (bB (g:=gb169) (o:=.cells #[.slice A1_0 l1_0.length c1_0] 31 (0,0)) (by (with_reducible repeat first|apply bN|apply bD|apply bA);exact BK169.out) hb);have n2_:=Zz.mk (qP (by repeat (first|(with_reducible first|exact HB.out|apply qA|apply qN|apply q1_|refine qS ?_ GE168.out|refine qS ?_ GE169.out)|exact HB.out)) hb);clear BK168;clear BK169;clear HB;have BK168:=n0_;have BK169:=n1_;have HB:=n2_;clear n0_ n1_ n2_;(try clear hb);(try clear hb2);(try clear hk);(try clear hi)))
  go_ret
  exact ⟨by first|rfl|(simp [errW_none,errW_some] <;> rfl)|(simp [*,errW_none,errW_some] <;> rfl),by repeat (first|(with_reducible first|exact HB.out|apply qA|apply qN|apply q1_|refine qS ?_ GE168.out|refine qS ?_ GE169.out)|exact HB.out)⟩
def laws_markNodeS.l0:Nat→List (S70)→Int→Int→Option (Int × (List (S70)))
 | 0,_,_,_=>none
 | k+1,x0,x1,x5=>if x5<(x0.length:Int) then (if 0≤x5 then ((some (x0.set (x5:Int).toNat (⟨x1,(rd_T70 x0 x5).f1,(rd_T70 x0 x5).f2⟩:S70):List (S70))).bind fun y171=>((some (y171.set (x5:Int).toNat (⟨(rd_T70 y171 x5).f0,wrap64 (x1+1),(rd_T70 y171 x5).f2⟩:S70):List (S70))).bind fun y172=>(laws_markNodeS.l0 k (y172.set (x5:Int).toNat (⟨(rd_T70 y172 x5).f0,(rd_T70 y172 x5).f1,((Int.tmod (wrap64 ((wrap64 (x1+1))+1)) 3) == 0)⟩:S70)) (wrap64 ((wrap64 ((wrap64 (x1+1))+1))+1)) (wrap64 (x5+1))))) else (none)) else (some (x1,x0))
def laws_markNodeS.f (k:Nat) (l0:List (S70)) (a1:Int):Option (Int × (List (S70))):=laws_markNodeS.l0 k l0 a1 0
set_option maxHeartbeats 8000000 in
set_option maxRecDepth 100000 in
theorem laws_markNodeS.calls (k:Nat) (P0_:Nat→Prop) (u9000_:Value) (l0:List (S70)) (a1:Int) (r1:Int) (r2:List (S70)) (w0 w:World) (hB:Below w0.heap.size w0 w) (ho0:Kd.R k70 70 w w0.heap.size P0_ u9000_ l0) (h:laws_markNodeS.f k l0 a1=some (r1,r2)) :
  Calls Tryz.prog 34 #[u9000_,.int .i64 a1] w fun e w'=>e=.returned (.int .i64 r1)∧Kd.R k70 70 w' w0.heap.size (fun k_=>(P0_ k_∨w.heap.size≤k_)) u9000_ r2∧Below w0.heap.size w0 w'∧Kept w w' (fun k_=>P0_ k_):=by
 have HO0:=Zz.mk (show Kd.R k70 70 w w0.heap.size (fun k_=>(P0_ k_∨w.heap.size≤k_)) u9000_ l0 from Kd.R_mono ho0 (fun k_ hk=>(.inl hk)))
 have HK:=Zz.mk (Kept.refl w (fun k_=>P0_ k_))
 have HW0:=Zz.mk hB.size
 have HB:=Zz.mk hB
 clear hB
 have H:(laws_markNodeS.l0 k l0 a1 0)=some (r1,r2):=h
 clear h
 have H':=Zz.mk H
 clear H
 go_enter Tryz.func34,Tryz.ntmps34
 go_wp2
 go_loopg [1,5] k (fun kq v1 v5 w'=>∃ (x0_1:List (S70)) (x1_1:Int) (x5_1:Int),v1=.int .i64 x1_1∧v5=.int .i64 x5_1∧Zz (laws_markNodeS.l0 kq x0_1 x1_1 x5_1=some (r1,r2))∧Zz (kq≤k)∧Zz (Kd.R k70 70 w' w0.heap.size (fun k_=>(P0_ k_∨w.heap.size≤k_)) u9000_ x0_1)∧Zz (Kept w w' (fun k_=>P0_ k_))∧Zz (Below w0.heap.size w0 w'))
 case atStart=>exact ⟨(l0),(a1),(0),(by first|rfl|(simp;done)|(simp [*];done)),(by first|rfl|(simp;done)|(simp [*];done)),H',⟨Nat.le_refl _⟩,⟨by (with_reducible repeat first|apply Kd.R_alloc|apply Kd.R_drewN|apply Kd.R_drew);exact HO0.out⟩,⟨by repeat (first|(with_reducible first|exact HK.out|apply Kept.alloc|apply Kept.drewN|apply Kept.drew)|exact HK.out)⟩,⟨by repeat (first|(with_reducible first|exact HB.out|apply qA|apply qN|apply q1_)|exact HB.out)⟩⟩
 case round =>
  clear H'
  try clear p2
  obtain ⟨x0_1,x1_1,x5_1,rfl,rfl,HA,HK1,HO_0,HK,HB⟩:=hrel
  cases gk with
  | zero=>exact absurd HA.out (by simp [laws_markNodeS.l0])
  | succ k1 =>
   have H:=HA.out
   clear HA
   simp only [laws_markNodeS.l0] at H
   by_cases c3:x5_1<(x0_1.length:Int)
   ·rw [if_pos c3] at H
    have c3b0:decide (x5_1<(x0_1.length:Int))=true:=decide_eq_true c3
    clear c3
    by_cases c4:0≤x5_1
    ·rw [if_pos c4] at H
     have c4b0:decide (0≤x5_1)=true:=decide_eq_true c4
     clear c4
     obtain ⟨y171,hy171⟩:∃ y_:List (S70),y_=(x0_1.set (x5_1:Int).toNat (⟨x1_1,(rd_T70 x0_1 x5_1).f1,(rd_T70 x0_1 x5_1).f2⟩:S70)):=⟨_,rfl⟩
     replace H:((some (y171.set (x5_1:Int).toNat (⟨(rd_T70 y171 x5_1).f0,wrap64 (x1_1+1),(rd_T70 y171 x5_1).f2⟩:S70):List (S70))).bind fun y172=>(laws_markNodeS.l0 k1 (y172.set (x5_1:Int).toNat (⟨(rd_T70 y172 x5_1).f0,(rd_T70 y172 x5_1).f1,((Int.tmod (wrap64 ((wrap64 (x1_1+1))+1)) 3) == 0)⟩:S70)) (wrap64 ((wrap64 ((wrap64 (x1_1+1))+1))+1)) (wrap64 (x5_1+1))))=some (r1,r2):=by first|(rw [hy171];with_reducible exact H)|(have H2_:=(Option.bind_some _ _).symm.trans H;rw [hy171];with_reducible exact H2_)|(have H2_:=(Option.bind_some _ _).symm.trans H;with_reducible exact H2_)|with_reducible exact H|(rw [hy171];exact H)|exact H
     have Ny171:=Zz.mk hy171
     clear hy171
     obtain ⟨y172,hy172⟩:∃ y_:List (S70),y_=(y171.set (x5_1:Int).toNat (⟨(rd_T70 y171 x5_1).f0,wrap64 (x1_1+1),(rd_T70 y171 x5_1).f2⟩:S70)):=⟨_,rfl⟩
     replace H:(laws_markNodeS.l0 k1 (y172.set (x5_1:Int).toNat (⟨(rd_T70 y172 x5_1).f0,(rd_T70 y172 x5_1).f1,((Int.tmod (wrap64 ((wrap64 (x1_1+1))+1)) 3) == 0)⟩:S70)) (wrap64 ((wrap64 ((wrap64 (x1_1+1))+1))+1)) (wrap64 (x5_1+1)))=some (r1,r2):=by first|(rw [hy172];with_reducible exact H)|(have H2_:=(Option.bind_some _ _).symm.trans H;rw [hy172];with_reducible exact H2_)|(have H2_:=(Option.bind_some _ _).symm.trans H;with_reducible exact H2_)|with_reducible exact H|(rw [hy172];exact H)|exact H
     have Ny172:=Zz.mk hy172
     clear hy172
     obtain ⟨y173,hy173⟩:∃ y_:List (S70),y_=(y172.set (x5_1:Int).toNat (⟨(rd_T70 y172 x5_1).f0,(rd_T70 y172 x5_1).f1,((Int.tmod (wrap64 ((wrap64 (x1_1+1))+1)) 3) == 0)⟩:S70)):=⟨_,rfl⟩
     replace H:(laws_markNodeS.l0 k1 y173 (wrap64 ((wrap64 ((wrap64 (x1_1+1))+1))+1)) (wrap64 (x5_1+1)))=some (r1,r2):=by first|(rw [hy173];with_reducible exact H)|(have H2_:=(Option.bind_some _ _).symm.trans H;rw [hy173];with_reducible exact H2_)|(have H2_:=(Option.bind_some _ _).symm.trans H;with_reducible exact H2_)|with_reducible exact H|(rw [hy173];exact H)|exact H
     have Ny173:=Zz.mk hy173
     clear hy173
     have H':=Zz.mk H
     clear H
     obtain ⟨Ao8,co8,eo8⟩:=Kd.R_slice HO_0.out
     subst eo8
     have p5:0≤(x5_1:Int):=of_decide_eq_true (by first|(with_reducible assumption)|assumption)
     have q5:(x5_1:Int)<((x0_1.length:Int):Int):=of_decide_eq_true (by first|(with_reducible assumption)|assumption)
     obtain ⟨go5,co5,eo5,gb5,gl5,cl5,HG5⟩:=Kd.R_form HO_0.out (by omega)
     (first|cases eo5|(injection eo5 with ea_ en_ ec_;(first|subst ea_|(injection ea_ with ea_;subst ea_));subst ec_;clear en_))
     have GB5:=Zz.mk gb5
     have GG5:=Zz.mk HG5
     clear gb5 gl5 HG5
     have HMgo5:=Zz.mk (show (P0_ go5∨w.heap.size≤go5) from (HO_0.out.1 _ rfl))
     obtain ⟨ce5,hcl5,hM5,hcc5,hfr5⟩:=Kd.R_elem HO_0.out z70 (x5_1:Int) p5 q5
     obtain rfl:=k70_openM hM5
     have hx5_0:wr.cell? ⟨go5,(x5_1:Int).toNat * 3,none⟩=some (.int .i64 ((rd_T70 x0_1 x5_1).f0)):=hcc5 0 _ rfl
     have hx5_1:wr.cell? ⟨go5,(x5_1:Int).toNat * 3+1,none⟩=some (.int .i64 ((rd_T70 x0_1 x5_1).f1)):=hcc5 1 _ rfl
     have hx5_2:wr.cell? ⟨go5,(x5_1:Int).toNat * 3+2,none⟩=some (.bool ((rd_T70 x0_1 x5_1).f2)):=hcc5 2 _ rfl
     have hf5_0:wr.frozen? ⟨go5,(x5_1:Int).toNat * 3,none⟩=false:=hfr5 0
     have hf5_1:wr.frozen? ⟨go5,(x5_1:Int).toNat * 3+1,none⟩=false:=hfr5 1
     have hf5_2:wr.frozen? ⟨go5,(x5_1:Int).toNat * 3+2,none⟩=false:=hfr5 2
     clear hcl5 hcc5 hfr5 hM5
     replace p5:=eq_true p5
     replace q5:=eq_true q5
     have HX9:=Zz.mk (show Kd.R k70 70 wr w0.heap.size (fun k_=>(P0_ k_∨w.heap.size≤k_)) (.slice (some ⟨go5,0,none⟩) x0_1.length co8) x0_1 from (by (with_reducible repeat first|apply Kd.R_alloc|apply Kd.R_drewN|apply Kd.R_drew);exact HO_0.out))
     obtain ⟨ce9,hcl9,hM9,hcc9,hfr9⟩:=Kd.R_elem HX9.out z70 (x5_1:Int) (of_decide_eq_true (by first|(with_reducible assumption)|assumption)) (by have h_:(x5_1:Int)<((x0_1.length:Int):Int):=of_decide_eq_true (by first|(with_reducible assumption)|assumption);first|exact h_|(have e_:=(Kd.R_reads' HO_0.out).1;omega)|simpa using h_)
     obtain rfl:=k70_openM hM9
     have HP9:=Kd.R_seg HX9.out (x5_1:Int) (of_decide_eq_true (by first|(with_reducible assumption)|assumption)) (by have h_:(x5_1:Int)<((x0_1.length:Int):Int):=of_decide_eq_true (by first|(with_reducible assumption)|assumption);first|exact h_|(have e_:=(Kd.R_reads' HO_0.out).1;omega)|simpa using h_) (seg:=[.int .i64 x1_1]) (j:=0) hcl9 hcc9 (show 1≤3 from by decide) (x':=(⟨x1_1,(rd_T70 x0_1 x5_1).f1,(rd_T70 x0_1 x5_1).f2⟩:S70)) (k70_mkM _ _ _ (⟨x1_1,(rd_T70 x0_1 x5_1).f1,(rd_T70 x0_1 x5_1).f2⟩:S70) ) (fun _ hk=>hk)
     have hx9_0:=hcc9 0 _ rfl
     (try simp only [show (k70).sz=3 from rfl,Nat.mul_one,Nat.add_zero] at hx9_0)
     have hf9_0:=hfr9 0
     (try simp only [show (k70).sz=3 from rfl,Nat.mul_one,Nat.add_zero] at hf9_0)
     clear hcl9 hcc9 hfr9 hM9
     go_wp2_with (first|((with_reducible refine gate_store (t:=3) (p:=16) rfl ?_);refine store_event (t:=3) (p:=16) (v:=?vo_w10) (w1:=(wr.setCell ⟨go5,(x5_1:Int).toNat * 3,none⟩ (.int .i64 x1_1))) ?hg ?ho ?hn ?hr ?_;(case ho=>rfl);(case hg=>rfl);(case hn=>rfl);(case hr=>first|(go_simp;done)|(go_simp;rfl));intro w10 hw;have hg:wr.grownBy w10 (some go5):=(by rw [hw];exact HP9.2);have hp_:Kd.R k70 70 w10 w0.heap.size (fun k_=>(P0_ k_∨w.heap.size≤k_)) (.slice (some ⟨go5,0,none⟩) x0_1.length co8) y171:=(by rw [hw,Ny171.out];exact HP9.1);clear HP9;have n0_:=Zz.mk (hp_);have n1_:=Zz.mk ((by rw [hw];exact qS (HB.out) GB5.out:Below w0.heap.size w0 w10));have n2_:=Zz.mk (Kept.of_grown (S:=(fun k_=>P0_ k_)) hg (by repeat (first|(with_reducible first|exact HK.out|apply Kept.alloc|apply Kept.drewN|apply Kept.drew)|exact HK.out)) (fun k_ e_=>(HO_0.out.1 k_ e_)));clear HO_0;clear HB;clear HK;have HO_0:=n0_;have HB:=n1_;have HK:=n2_;clear n0_ n1_ n2_;clear hg hw hp_;have p6:0≤(x5_1:Int):=of_decide_eq_true (by first|(with_reducible assumption)|assumption);have q6:(x5_1:Int)<((x0_1.length:Int):Int):=of_decide_eq_true (by first|(with_reducible assumption)|assumption);obtain ⟨ce6,hcl6,hM6,hcc6,hfr6⟩:=Kd.R_elem HO_0.out z70 (x5_1:Int) p6 q6;obtain rfl:=k70_openM hM6;have hx6_0:w10.cell? ⟨go5,(x5_1:Int).toNat * 3,none⟩=some (.int .i64 ((rd_T70 y171 x5_1).f0)):=hcc6 0 _ rfl;have hx6_1:w10.cell? ⟨go5,(x5_1:Int).toNat * 3+1,none⟩=some (.int .i64 ((rd_T70 y171 x5_1).f1)):=hcc6 1 _ rfl;have hx6_2:w10.cell? ⟨go5,(x5_1:Int).toNat * 3+2,none⟩=some (.bool ((rd_T70 y171 x5_1).f2)):=hcc6 2 _ rfl;have hf6_0:w10.frozen? ⟨go5,(x5_1:Int).toNat * 3,none⟩=false:=hfr6 0;have hf6_1:w10.frozen? ⟨go5,(x5_1:Int).toNat * 3+1,none⟩=false:=hfr6 1;have hf6_2:w10.frozen? ⟨go5,(x5_1:Int).toNat * 3+2,none⟩=false:=hfr6 2;clear hcl6 hcc6 hfr6 hM6;replace p6:=eq_true p6;replace q6:=eq_true q6;have HX11:=Zz.mk (show Kd.R k70 70 w10 w0.heap.size (fun k_=>(P0_ k_∨w.heap.size≤k_)) (.slice (some ⟨go5,0,none⟩) x0_1.length co8) y171 from (by (with_reducible repeat first|apply Kd.R_alloc|apply Kd.R_drewN|apply Kd.R_drew);exact HO_0.out));obtain ⟨ce11,hcl11,hM11,hcc11,hfr11⟩:=Kd.R_elem HX11.out z70 (x5_1:Int) (of_decide_eq_true (by first|(with_reducible assumption)|assumption)) (by have h_:(x5_1:Int)<((x0_1.length:Int):Int):=of_decide_eq_true (by first|(with_reducible assumption)|assumption);first|exact h_|(have e_:=(Kd.R_reads' HO_0.out).1;omega)|simpa using h_);obtain rfl:=k70_openM hM11;have HP11:=Kd.R_seg HX11.out (x5_1:Int) (of_decide_eq_true (by first|(with_reducible assumption)|assumption)) (by have h_:(x5_1:Int)<((x0_1.length:Int):Int):=of_decide_eq_true (by first|(with_reducible assumption)|assumption);first|exact h_|(have e_:=(Kd.R_reads' HO_0.out).1;omega)|simpa using h_) (seg:=[.int .i64 (wrap64 (x1_1+1))]) (j:=1) hcl11 hcc11 (show 2≤3 from by decide) (x':=(⟨(rd_T70 y171 x5_1).f0,wrap64 (x1_1+1),(rd_T70 y171 x5_1).f2⟩:S70)) (k70_mkM _ _ _ (⟨(rd_T70 y171 x5_1).f0,wrap64 (x1_1+1),(rd_T70 y171 x5_1).f2⟩:S70) ) (fun _ hk=>hk);have hx11_1:=hcc11 1 _ rfl;(try simp only [show (k70).sz=3 from rfl,Nat.mul_one,Nat.add_zero] at hx11_1);have hf11_1:=hfr11 1;(try simp only [show (k70).sz=3 from rfl,Nat.mul_one,Nat.add_zero] at hf11_1);clear hcl11 hcc11 hfr11 hM11)|((with_reducible refine gate_store (t:=3) (p:=23) rfl ?_);refine store_event (t:=3) (p:=23) (v:=?vo_w12) (w1:=(w10.setCell ⟨go5,(x5_1:Int).toNat * 3+1,none⟩ (.int .i64 (wrap64 (x1_1+1))))) ?hg ?ho ?hn ?hr ?_;(case ho=>rfl);(case hg=>rfl);(case hn=>rfl);(case hr=>first|(go_simp;done)|(go_simp;rfl));intro w12 hw;have hg:w10.grownBy w12 (some go5):=(by rw [hw];exact HP11.2);have hp_:Kd.R k70 70 w12 w0.heap.size (fun k_=>(P0_ k_∨w.heap.size≤k_)) (.slice (some ⟨go5,0,none⟩) x0_1.length co8) y172:=(by rw [hw,Ny172.out];exact HP11.1);clear HP11;have n0_:=Zz.mk (hp_);have n1_:=Zz.mk ((by rw [hw];exact qS (HB.out) GB5.out:Below w0.heap.size w0 w12));have n2_:=Zz.mk (Kept.of_grown (S:=(fun k_=>P0_ k_)) hg (by repeat (first|(with_reducible first|exact HK.out|apply Kept.alloc|apply Kept.drewN|apply Kept.drew)|exact HK.out)) (fun k_ e_=>(HO_0.out.1 k_ e_)));clear HO_0;clear HB;clear HK;have HO_0:=n0_;have HB:=n1_;have HK:=n2_;clear n0_ n1_ n2_;clear hg hw hp_;have p7:0≤(x5_1:Int):=of_decide_eq_true (by first|(with_reducible assumption)|assumption);have q7:(x5_1:Int)<((x0_1.length:Int):Int):=of_decide_eq_true (by first|(with_reducible assumption)|assumption);obtain ⟨ce7,hcl7,hM7,hcc7,hfr7⟩:=Kd.R_elem HO_0.out z70 (x5_1:Int) p7 q7;obtain rfl:=k70_openM hM7;have hx7_0:w12.cell? ⟨go5,(x5_1:Int).toNat * 3,none⟩=some (.int .i64 ((rd_T70 y172 x5_1).f0)):=hcc7 0 _ rfl;have hx7_1:w12.cell? ⟨go5,(x5_1:Int).toNat * 3+1,none⟩=some (.int .i64 ((rd_T70 y172 x5_1).f1)):=hcc7 1 _ rfl;have hx7_2:w12.cell? ⟨go5,(x5_1:Int).toNat * 3+2,none⟩=some (.bool ((rd_T70 y172 x5_1).f2)):=hcc7 2 _ rfl;have hf7_0:w12.frozen? ⟨go5,(x5_1:Int).toNat * 3,none⟩=false:=hfr7 0;have hf7_1:w12.frozen? ⟨go5,(x5_1:Int).toNat * 3+1,none⟩=false:=hfr7 1;have hf7_2:w12.frozen? ⟨go5,(x5_1:Int).toNat * 3+2,none⟩=false:=hfr7 2;clear hcl7 hcc7 hfr7 hM7;replace p7:=eq_true p7;replace q7:=eq_true q7;have HX13:=Zz.mk (show Kd.R k70 70 w12 w0.heap.size (fun k_=>(P0_ k_∨w.heap.size≤k_)) (.slice (some ⟨go5,0,none⟩) x0_1.length co8) y172 from (by (with_reducible repeat first|apply Kd.R_alloc|apply Kd.R_drewN|apply Kd.R_drew);exact HO_0.out));obtain ⟨ce13,hcl13,hM13,hcc13,hfr13⟩:=Kd.R_elem HX13.out z70 (x5_1:Int) (of_decide_eq_true (by first|(with_reducible assumption)|assumption)) (by have h_:(x5_1:Int)<((x0_1.length:Int):Int):=of_decide_eq_true (by first|(with_reducible assumption)|assumption);first|exact h_|(have e_:=(Kd.R_reads' HO_0.out).1;omega)|simpa using h_);obtain rfl:=k70_openM hM13;have HP13:=Kd.R_seg HX13.out (x5_1:Int) (of_decide_eq_true (by first|(with_reducible assumption)|assumption)) (by have h_:(x5_1:Int)<((x0_1.length:Int):Int):=of_decide_eq_true (by first|(with_reducible assumption)|assumption);first|exact h_|(have e_:=(Kd.R_reads' HO_0.out).1;omega)|simpa using h_) (seg:=[.bool ((Int.tmod (wrap64 ((wrap64 (x1_1+1))+1)) 3) == 0)]) (j:=2) hcl13 hcc13 (show 3≤3 from by decide) (x':=(⟨(rd_T70 y172 x5_1).f0,(rd_T70 y172 x5_1).f1,((Int.tmod (wrap64 ((wrap64 (x1_1+1))+1)) 3) == 0)⟩:S70)) (k70_mkM _ _ _ (⟨(rd_T70 y172 x5_1).f0,(rd_T70 y172 x5_1).f1,((Int.tmod (wrap64 ((wrap64 (x1_1+1))+1)) 3) == 0)⟩:S70) ) (fun _ hk=>hk);have hx13_2:=hcc13 2 _ rfl;(try simp only [show (k70).sz=3 from rfl,Nat.mul_one,Nat.add_zero] at hx13_2);have hf13_2:=hfr13 2;(try simp only [show (k70).sz=3 from rfl,Nat.mul_one,Nat.add_zero] at hf13_2);clear hcl13 hcc13 hfr13 hM13)|((with_reducible refine gate_store (t:=4) (p:=32) rfl ?_);refine store_event (t:=4) (p:=32) (v:=?vo_w14) (w1:=(w12.setCell ⟨go5,(x5_1:Int).toNat * 3+2,none⟩ (.bool ((Int.tmod (wrap64 ((wrap64 (x1_1+1))+1)) 3) == 0)))) ?hg ?ho ?hn ?hr ?_;(case ho=>rfl);(case hg=>rfl);(case hn=>rfl);(case hr=>first|(go_simp;done)|(go_simp;rfl));intro w14 hw;have hg:w12.grownBy w14 (some go5):=(by rw [hw];exact HP13.2);have hp_:Kd.R k70 70 w14 w0.heap.size (fun k_=>(P0_ k_∨w.heap.size≤k_)) (.slice (some ⟨go5,0,none⟩) x0_1.length co8) y173:=(by rw [hw,Ny173.out];exact HP13.1);clear HP13;have n0_:=Zz.mk (hp_);have n1_:=Zz.mk ((by rw [hw];exact qS (HB.out) GB5.out:Below w0.heap.size w0 w14));have n2_:=Zz.mk (Kept.of_grown (S:=(fun k_=>P0_ k_)) hg (by repeat (first|(with_reducible first|exact HK.out|apply Kept.alloc|apply Kept.drewN|apply Kept.drew)|exact HK.out)) (fun k_ e_=>(HO_0.out.1 k_ e_)));clear HO_0;clear HB;clear HK;have HO_0:=n0_;have HB:=n1_;have HK:=n2_;clear n0_ n1_ n2_;clear hg hw hp_))
     go_roundg k1
     case measure=>have:=HK1.out;omega
     case rel=>exact ⟨(y173),(wrap64 ((wrap64 ((wrap64 (x1_1+1))+1))+1)),(wrap64 (x5_1+1)),(by first|rfl|(simp;done)|(simp [*];done)),(by first|rfl|(simp;done)|(simp [*];done)),H',⟨by have:=HK1.out;omega⟩,⟨by (with_reducible repeat first|apply Kd.R_alloc|apply Kd.R_drewN|apply Kd.R_drew);exact HO_0.out⟩,⟨by repeat (first|(with_reducible first|exact HK.out|apply Kept.alloc|apply Kept.drewN|apply Kept.drew)|exact HK.out)⟩,⟨by repeat (first|(with_reducible first|exact HB.out|apply qA|apply qN|apply q1_)|exact HB.out)⟩⟩
    ·rw [if_neg c4] at H
     exact absurd H (by simp)
   ·rw [if_neg c3] at H
    have c3b0:decide (x5_1<(x0_1.length:Int))=false:=decide_eq_false c3
    clear c3
    simp only [Option.some.injEq,Prod.mk.injEq] at H
    obtain ⟨rfl,rfl⟩:=H
    obtain ⟨Ao15,co15,eo15⟩:=Kd.R_slice HO_0.out
    subst eo15
    go_wp2
    go_ret
    exact ⟨by first|rfl|(simp [errW_none,errW_some] <;> rfl)|(simp [*,errW_none,errW_some] <;> rfl),by (with_reducible repeat first|apply Kd.R_alloc|apply Kd.R_drewN|apply Kd.R_drew);exact HO_0.out,by repeat (first|(with_reducible first|exact HB.out|apply qA|apply qN|apply q1_)|exact HB.out),by repeat (first|(with_reducible first|exact HK.out|apply Kept.alloc|apply Kept.drewN|apply Kept.drew)|exact HK.out)⟩
def laws_markTrie.f (k:Nat) (l0_0:List (S70)) (a1:Int):Option (Int × (List (S70))):=(laws_markNodeS.f k l0_0 a1).bind fun bt175=>(some (bt175.1,bt175.2))
set_option maxHeartbeats 8000000 in
set_option maxRecDepth 100000 in
theorem laws_markTrie.calls (k:Nat) (P0_0_:Nat→Prop) (u9000_:Value) (l0_0:List (S70)) (a1:Int) (r1:Int) (r2:List (S70)) (w0 w:World) (hB:Below w0.heap.size w0 w) (ho0_0:Kd.R k70 70 w w0.heap.size P0_0_ u9000_ l0_0) (h:laws_markTrie.f k l0_0 a1=some (r1,r2)) :
  Calls Tryz.prog 12 #[.agg #[u9000_],.int .i64 a1] w fun e w'=>e=.returned (.int .i64 r1)∧Kd.R k70 70 w' w0.heap.size (fun k_=>(P0_0_ k_∨w.heap.size≤k_)) u9000_ r2∧Below w0.heap.size w0 w'∧Kept w w' (fun k_=>P0_0_ k_):=by
 have hu31:=Tryz.underlying31
 have HO0_0:=Zz.mk (show Kd.R k70 70 w w0.heap.size (fun k_=>(P0_0_ k_∨w.heap.size≤k_)) u9000_ l0_0 from Kd.R_mono ho0_0 (fun k_ hk=>(.inl hk)))
 have HK:=Zz.mk (Kept.refl w (fun k_=>P0_0_ k_))
 have HW0:=Zz.mk hB.size
 have HB:=Zz.mk hB
 clear hB
 have H:((laws_markNodeS.f k l0_0 a1).bind fun bt175=>(some (bt175.1,bt175.2)))=some (r1,r2):=h
 clear h
 replace H:=Option.bind_eq_some_iff.mp H
 obtain ⟨⟨t175,t176⟩,A30,H⟩:=H
 replace H:(some (t175,t176))=some (r1,r2):=H
 have A3:=Zz.mk A30
 clear A30
 simp only [Option.some.injEq,Prod.mk.injEq] at H
 obtain ⟨rfl,rfl⟩:=H
 obtain ⟨Ao4,co4,eo4⟩:=Kd.R_slice HO0_0.out
 subst eo4
 go_enter Tryz.func12,Tryz.ntmps12
 go_wp2_with (first|((with_reducible refine gate_dst (N:=2) rfl ?_);refine box_event ?hg (N:=2) ?hd (cs:=#[.slice Ao4 l0_0.length co4]) (t:=31) ?hr ?_;(case hd=>rfl);(case hg=>rfl);(case hr=>first|(go_simp;done)|(go_simp;rfl));intro gb174 hg w5 hbox hb;have n0_:=Zz.mk (Kd.R_below (by (with_reducible repeat first|apply Kd.R_alloc|apply Kd.R_drewN|apply Kd.R_drew);exact HO0_0.out) hb);have n1_:=Zz.mk (Kept.below (S:=(fun k_=>P0_0_ k_)) (by repeat (first|(with_reducible first|exact HK.out|apply Kept.alloc|apply Kept.drewN|apply Kept.drew)|exact HK.out)) hb);have n2_:=Zz.mk (qP (by repeat (first|(with_reducible first|exact HB.out|apply qA|apply qN|apply q1_)|exact HB.out)) hb);have n3_:=Zz.mk (hbox);have n4_:=Zz.mk ((by rw [hg];exact (by first|exact HK.out.1|exact (show Kept w _ (fun k_=>P0_0_ k_) from by repeat (first|(with_reducible first|exact HK.out|apply Kept.alloc|apply Kept.drewN|apply Kept.drew)|exact HK.out)).1):w.heap.size≤gb174));have n5_:=Zz.mk ((by rw [hg];exact (qZ (by repeat (first|(with_reducible first|exact HB.out|apply qA|apply qN|apply q1_)|exact HB.out))):w0.heap.size≤gb174));clear HO0_0;clear HK;clear HB;have HO0_0:=n0_;have HK:=n1_;have HB:=n2_;have BK174:=n3_;have GW174:=n4_;have GE174:=n5_;clear n0_ n1_ n2_ n3_ n4_ n5_;clear hb hbox hg;have hcz6_0:w5.cell? ⟨gb174,0,none⟩=some (.slice Ao4 l0_0.length co4):=(bC BK174.out 0).trans rfl;have hfz6_0:=bF BK174.out 0)|((with_reducible refine gate_callee (f:=34) rfl ?_);refine goesL_ (some 8) rfl rfl Tryz.func34 (by kernel_rfl) rfl #[.slice Ao4 l0_0.length co4,.int .i64 a1] rfl (by (try simp only [List.map_toArray,List.map_cons,List.map_nil]);first|done|rfl|(simp only [List.length_drop,List.length_take];rfl)) ?_;(with_reducible refine (laws_markNodeS.calls k (fun k_=>some k_=(.slice Ao4 l0_0.length co4:Value).ownBlock) (.slice Ao4 l0_0.length co4) l0_0 a1 t175 t176 w0 _ ?side1 ?side2 A3.out).mono ?_);(case side1=>repeat (first|(with_reducible first|exact HB.out|apply qA|apply qN|apply q1_|refine qS ?_ GE174.out)|exact HB.out));(case side2=>exact Kd.R_tight rfl HO0_0.out);rintro e w7 ⟨rfl,hy0,hb,hkp⟩;refine ⟨_,rfl,?_⟩;have n0_:=Zz.mk (Kd.R_reok rfl hy0 (fun k_ e_=>HO0_0.out.1 k_ e_));have n1_:=Zz.mk (blk_kept (by (with_reducible repeat first|apply bN|apply bD|apply bA);exact BK174.out) hkp (fun hs_=>(fun e_=>(Kd.R_ne HO0_0.out BK174.out (by decide)) e_) hs_));have n2_:=Zz.mk (Kept.then_ (S:=(fun k_=>P0_0_ k_)) (by repeat (first|(with_reducible first|exact HK.out|apply Kept.alloc|apply Kept.drewN|apply Kept.drew|refine Kept.setCell ?_ (.inr GW174.out) _)|exact HK.out)) hkp (fun k_ hs_=>(fun e_=>(HO0_0.out.1 k_ e_.symm)) hs_));have n3_:=Zz.mk (hb);clear HO0_0;clear BK174;clear HK;clear HB;have HO0_0:=n0_;have BK174:=n1_;have HK:=n2_;have HB:=n3_;clear n0_ n1_ n2_ n3_;(try clear hb);(try clear hkp);(try clear hy0)))
 go_ret
 exact ⟨by first|rfl|(simp [errW_none,errW_some] <;> rfl)|(simp [*,errW_none,errW_some] <;> rfl),by (with_reducible repeat first|apply Kd.R_alloc|apply Kd.R_drewN|apply Kd.R_drew);exact HO0_0.out,by repeat (first|(with_reducible first|exact HB.out|apply qA|apply qN|apply q1_|refine qS ?_ GE174.out)|exact HB.out),by repeat (first|(with_reducible first|exact HK.out|apply Kept.alloc|apply Kept.drewN|apply Kept.drew|refine Kept.setCell ?_ (.inr GW174.out) _)|exact HK.out)⟩
def spec_l1In.f (a0:Int) (a1:Int) (a2:Int):Option (Bool):=if a0 ≥ a1 then (some (decide (a0≤a2))) else (some false)
set_option maxHeartbeats 8000000 in
set_option maxRecDepth 100000 in
theorem spec_l1In.calls (a0:Int) (a1:Int) (a2:Int) (r:Bool) (w:World) (h:spec_l1In.f a0 a1 a2=some r) :
  Calls Tryz.prog 52 #[.int .i64 a0,.int .i64 a1,.int .i64 a2] w fun e w'=>e=.returned (.bool r)∧Drawn0 w w':=by
 have H:(if a0 ≥ a1 then (some (decide (a0≤a2))) else (some false))=some r:=h
 clear h
 by_cases c4:a0 ≥ a1
 ·rw [if_pos c4] at H
  have c4b0:decide (a1≤a0)=true:=decide_eq_true c4
  clear c4
  obtain rfl:=Option.some.inj H
  go_enter Tryz.func52,Tryz.ntmps52
  go_wp2
  go_ret
  exact ⟨by first|rfl|(simp;done)|(simp [*];done),by repeat (first|exact Drawn0.refl _|apply Drawn0.step)⟩
 ·rw [if_neg c4] at H
  have c4b0:decide (a1≤a0)=false:=decide_eq_false c4
  clear c4
  obtain rfl:=Option.some.inj H
  go_enter Tryz.func52,Tryz.ntmps52
  go_wp2
  go_ret
  exact ⟨by first|rfl|(simp;done)|(simp [*];done),by repeat (first|exact Drawn0.refl _|apply Drawn0.step)⟩
mutual
def spec_l2Prefix.l0:Nat→Int→ByteArray→List (S70)→Option (ByteArray)
 | 0,_,_,_=>none
 | k+1,x1,x5,x178000=>if x1 > 0 then (spec_l2Prefix.j1 k x1 x5 (decide ((x5.size:Int)≤12)) x178000) else (spec_l2Prefix.j1 k x1 x5 false x178000)
def spec_l2Prefix.j1:Nat→Int→ByteArray→Bool→List (S70)→Option (ByteArray)
 | 0,_,_,_,_=>none
 | k+1,x1,x5,x13,x178000=>if x13=true then (if 0≤x1 then (if x1<(x178000.length:Int) then ((spec_l1In.f ((rd_T70 x178000 x1).f0) 0 25).bind fun t180=>(if t180=true then (if ((rd_T70 x178000 x1).f1) ≥ x1 then (some (⟨#[63]⟩:ByteArray)) else ((some (([(wrap64 (97+((rd_T70 x178000 x1).f0))) % 256]:List Int):List Int)).bind fun y181=>(if (strOfNums y181).size+x5.size≤9223372036854775807 then (spec_l2Prefix.l0 k ((rd_T70 x178000 x1).f1) ((strOfNums y181) ++ x5) x178000) else (none)))) else (some (⟨#[63]⟩:ByteArray)))) else (none)) else (none)) else (if x1=0 then (some x5) else (some (⟨#[63]⟩:ByteArray)))
end
def spec_l2Prefix.f (k:Nat) (l0_0:List (S70)) (a1:Int):Option (ByteArray):=spec_l2Prefix.l0 k a1 (⟨#[]⟩:ByteArray) l0_0
set_option maxHeartbeats 8000000 in
set_option maxRecDepth 100000 in
theorem spec_l2Prefix.calls (k:Nat) (A0_0:Option Addr) (c0_0:Nat) (l0_0:List (S70)) (a1:Int) (r:ByteArray) (w:World) (hr0_0:Kd.C k70 w A0_0 l0_0.length l0_0) (hc0_0:l0_0.length≤c0_0) (h:spec_l2Prefix.f k l0_0 a1=some r) :
  Calls Tryz.prog 41 #[.agg #[.slice A0_0 l0_0.length c0_0],.int .i64 a1] w fun e w'=>e=.returned (.string r)∧Below w.heap.size w w':=by
 have hu31:=Tryz.underlying31
 have hu70:=Tryz.underlying70
 have HR0_0:=Zz.mk hr0_0
 have HC0_0:=Zz.mk hc0_0
 clear hr0_0 hc0_0
 have HB:=Zz.mk (Below.refl w.heap.size w)
 have H:(spec_l2Prefix.l0 k a1 (⟨#[]⟩:ByteArray) l0_0)=some r:=h
 clear h
 have H':=Zz.mk H
 clear H
 go_enter Tryz.func41,Tryz.ntmps41
 go_wp2_with (first|((with_reducible refine gate_dst (N:=2) rfl ?_);(try (refine gate_guard (by rfl) ?_;dsimp only));refine box_event ?hg (N:=2) ?hd (cs:=#[.slice A0_0 l0_0.length c0_0]) (t:=31) ?hr ?_;(case hd=>rfl);(case hg=>rfl);(case hr=>first|(go_simp;done)|(go_simp;rfl));intro gb177 hg w3 hbox hb;have n0_:=Zz.mk (qP (by repeat (first|(with_reducible first|exact HB.out|apply qA|apply qN|apply q1_)|exact HB.out)) hb);have n1_:=Zz.mk (hbox);have n2_:=Zz.mk ((by rw [hg];exact (qZ (by repeat (first|(with_reducible first|exact HB.out|apply qA|apply qN|apply q1_)|exact HB.out))):w.heap.size≤gb177));have n3_:=Zz.mk ((by rw [hg];exact (qZ (by repeat (first|(with_reducible first|exact HB.out|apply qA|apply qN|apply q1_)|exact HB.out))):w.heap.size≤gb177));clear HB;have HB:=n0_;have BK177:=n1_;have GW177:=n2_;have GE177:=n3_;clear n0_ n1_ n2_ n3_;clear hb hbox hg))
 go_loopg [1,5] k (fun kq v1 v5 w'=>∃ (x1_1:Int) (x5_1:ByteArray),v1=.int .i64 x1_1∧v5=.string x5_1∧Zz (spec_l2Prefix.l0 kq x1_1 x5_1 l0_0=some r)∧Zz (kq≤k)∧Zz (w'.heap[gb177]?=some (.cells #[(.slice A0_0 l0_0.length c0_0)] 31 (0,0)))∧Zz (Below w.heap.size w w'))
 case atStart=>exact ⟨(a1),((⟨#[]⟩:ByteArray)),(by first|rfl|(simp;done)|(simp [*];done)),(by first|rfl|(simp;done)|(simp [*];done)),H',⟨Nat.le_refl _⟩,⟨by (with_reducible repeat first|apply bN|apply bD|apply bA);exact BK177.out⟩,⟨by repeat (first|(with_reducible first|exact HB.out|apply qA|apply qN|apply q1_|refine qS ?_ GE177.out)|exact HB.out)⟩⟩
 case round =>
  clear H'
  try clear p2
  obtain ⟨x1_1,x5_1,rfl,rfl,HA,HK1,BK177,HB⟩:=hrel
  cases gk with
  | zero=>exact absurd HA.out (by simp [spec_l2Prefix.l0])
  | succ k1 =>
   have H:=HA.out
   clear HA
   simp only [spec_l2Prefix.l0] at H
   have HC4:=Zz.mk H
   clear H
   go_upto_region 2 with (fail)
   go_cut [13] (fun v13 wc=>∃ (kq:Nat) (x13_3:Bool),v13=.bool x13_3∧Zz (spec_l2Prefix.j1 kq x1_1 x5_1 x13_3 l0_0=some r)∧Zz (kq≤k1)∧Zz (wc.heap[gb177]?=some (.cells #[(.slice A0_0 l0_0.length c0_0)] 31 (0,0)))∧Zz (Below w.heap.size w wc))
   case first =>
    have H:=HC4.out
    clear HC4
    by_cases c5:x1_1 > 0
    ·rw [if_pos c5] at H
     have c5b0:decide (0<x1_1)=true:=decide_eq_true c5
     clear c5
     (first|rw [c5b0]|(simp only [i64_w,i32_w];rw [c5b0])|skip)
     have H':=Zz.mk H
     clear H
     go_wp2
     go_meet
     case rel=>exact ⟨_,(decide ((x5_1.size:Int)≤12)),(by first|rfl|(simp;done)|(simp [*];done)),H',⟨by have:=HK1.out;first|omega|exact Nat.le_refl _⟩,⟨by (with_reducible repeat first|apply bN|apply bD|apply bA);exact BK177.out⟩,⟨by repeat (first|(with_reducible first|exact HB.out|apply qA|apply qN|apply q1_|refine qS ?_ GE177.out)|exact HB.out)⟩⟩
    ·rw [if_neg c5] at H
     have c5b0:decide (0<x1_1)=false:=decide_eq_false c5
     clear c5
     (first|rw [c5b0]|(simp only [i64_w,i32_w];rw [c5b0])|skip)
     have H':=Zz.mk H
     clear H
     go_wp2
     go_meet
     case rel=>exact ⟨_,(false),(by first|rfl|(simp;done)|(simp [*];done)),H',⟨by have:=HK1.out;first|omega|exact Nat.le_refl _⟩,⟨by (with_reducible repeat first|apply bN|apply bD|apply bA);exact BK177.out⟩,⟨by repeat (first|(with_reducible first|exact HB.out|apply qA|apply qN|apply q1_|refine qS ?_ GE177.out)|exact HB.out)⟩⟩
   case rest =>
    clear HC4
    try clear p2
    try clear c4
    try clear c5
    try clear c5b0
    try clear p2
    obtain ⟨kq,x13_3,rfl,HA,HJ3,BK177,HB⟩:=hcut
    cases kq with
    | zero=>exact absurd HA.out (by simp [spec_l2Prefix.j1])
    | succ kj3 =>
     have H:=HA.out
     clear HA
     simp only [spec_l2Prefix.j1] at H
     by_cases c6:x13_3=true
     ·subst c6
      have H1:(if 0≤x1_1 then (if x1_1<(l0_0.length:Int) then ((spec_l1In.f ((rd_T70 l0_0 x1_1).f0) 0 25).bind fun t180=>(if t180=true then (if ((rd_T70 l0_0 x1_1).f1) ≥ x1_1 then (some (⟨#[63]⟩:ByteArray)) else ((some (([(wrap64 (97+((rd_T70 l0_0 x1_1).f0))) % 256]:List Int):List Int)).bind fun y181=>(if (strOfNums y181).size+x5_1.size≤9223372036854775807 then (spec_l2Prefix.l0 kj3 ((rd_T70 l0_0 x1_1).f1) ((strOfNums y181) ++ x5_1) l0_0) else (none)))) else (some (⟨#[63]⟩:ByteArray)))) else (none)) else (none))=some r:=by rw [if_pos rfl] at H;exact H
      clear H
      have H:=H1
      clear H1
      by_cases c7:0≤x1_1
      ·rw [if_pos c7] at H
       have c7b0:decide (0≤x1_1)=true:=decide_eq_true c7
       clear c7
       by_cases c8:x1_1<(l0_0.length:Int)
       ·rw [if_pos c8] at H
        have c8b0:decide (x1_1<(l0_0.length:Int))=true:=decide_eq_true c8
        clear c8
        replace H:=Option.bind_eq_some_iff.mp H
        obtain ⟨t180,A90,H⟩:=H
        replace H:(if t180=true then (if ((rd_T70 l0_0 x1_1).f1) ≥ x1_1 then (some (⟨#[63]⟩:ByteArray)) else ((some (([(wrap64 (97+((rd_T70 l0_0 x1_1).f0))) % 256]:List Int):List Int)).bind fun y181=>(if (strOfNums y181).size+x5_1.size≤9223372036854775807 then (spec_l2Prefix.l0 kj3 ((rd_T70 l0_0 x1_1).f1) ((strOfNums y181) ++ x5_1) l0_0) else (none)))) else (some (⟨#[63]⟩:ByteArray)))=some r:=H
        have A9:=Zz.mk A90
        clear A90
        by_cases c10:t180=true
        ·subst c10
         have H1:(if ((rd_T70 l0_0 x1_1).f1) ≥ x1_1 then (some (⟨#[63]⟩:ByteArray)) else ((some (([(wrap64 (97+((rd_T70 l0_0 x1_1).f0))) % 256]:List Int):List Int)).bind fun y181=>(if (strOfNums y181).size+x5_1.size≤9223372036854775807 then (spec_l2Prefix.l0 kj3 ((rd_T70 l0_0 x1_1).f1) ((strOfNums y181) ++ x5_1) l0_0) else (none))))=some r:=by rw [if_pos rfl] at H;exact H
         clear H
         have H:=H1
         clear H1
         by_cases c11:((rd_T70 l0_0 x1_1).f1) ≥ x1_1
         ·rw [if_pos c11] at H
          have c11b0:decide (x1_1≤((rd_T70 l0_0 x1_1).f1))=true:=decide_eq_true c11
          clear c11
          obtain rfl:=Option.some.inj H
          have hcz12_0:wc.cell? ⟨gb177,0,none⟩=some (.slice A0_0 l0_0.length c0_0):=(bC BK177.out 0).trans rfl
          have hfz12_0:=bF BK177.out 0
          have p178:0≤(x1_1:Int):=of_decide_eq_true (by first|(with_reducible assumption)|assumption)
          have q178:x1_1<(l0_0.length:Int):=of_decide_eq_true (by first|(with_reducible assumption)|assumption)
          obtain ⟨ad178,e178,hx178_0,hx178_1,hx178_2⟩:=at_T70 HR0_0.out x1_1 p178 q178
          cases e178
          replace hx178_0:=(HB.out.cell (World.block_lt_of_cell? w _ hx178_0)).trans hx178_0
          replace hx178_1:=(HB.out.cell (World.block_lt_of_cell? w _ hx178_1)).trans hx178_1
          replace hx178_2:=(HB.out.cell (World.block_lt_of_cell? w _ hx178_2)).trans hx178_2
          replace p178:=eq_true p178
          replace q178:=eq_true q178
          go_wp2_with (first|((with_reducible refine gate_dst (N:=6) rfl ?_);(try (refine gate_guard (by rfl) ?_;dsimp only));refine box_event ?hg (N:=6) ?hd (cs:=#[.int .i64 0,.int .i64 0,.bool false]) (t:=70) ?hr ?_;(case hd=>rfl);(case hg=>rfl);(case hr=>first|(go_simp;done)|(go_simp;rfl));intro gb179 hg w13 hbox hb;have n0_:=Zz.mk (bB (g:=gb177) (o:=.cells #[.slice (some ad178) l0_0.length c0_0] 31 (0,0)) (by (with_reducible repeat first|apply bN|apply bD|apply bA);exact BK177.out) hb);have n1_:=Zz.mk (qP (by repeat (first|(with_reducible first|exact HB.out|apply qA|apply qN|apply q1_|refine qS ?_ GE177.out)|exact HB.out)) hb);have n2_:=Zz.mk (hbox);have n3_:=Zz.mk ((by rw [hg];exact (qZ (by repeat (first|(with_reducible first|exact HB.out|apply qA|apply qN|apply q1_|refine qS ?_ GE177.out)|exact HB.out))):w.heap.size≤gb179));have n4_:=Zz.mk ((by rw [hg];exact (qZ (by repeat (first|(with_reducible first|exact HB.out|apply qA|apply qN|apply q1_|refine qS ?_ GE177.out)|exact HB.out))):w.heap.size≤gb179));have n5_:=Zz.mk ((by rw [hg];exact Nat.ne_of_lt (blk_lt (g:=gb177) (o:=.cells #[.slice (some ad178) l0_0.length c0_0] 31 (0,0)) (by (with_reducible repeat first|apply bN|apply bD|apply bA);exact BK177.out)):gb177 ≠ gb179));have n6_:=Zz.mk ((by rw [hg];exact Nat.ne_of_gt (blk_lt (g:=gb177) (o:=.cells #[.slice (some ad178) l0_0.length c0_0] 31 (0,0)) (by (with_reducible repeat first|apply bN|apply bD|apply bA);exact BK177.out)):gb179 ≠ gb177));clear BK177;clear HB;have BK177:=n0_;have HB:=n1_;have BK179:=n2_;have GW179:=n3_;have GE179:=n4_;have NB177_179:=n5_;have NB179_177:=n6_;clear n0_ n1_ n2_ n3_ n4_ n5_ n6_;clear hb hbox hg;have hnb14:=NB179_177.out;have hnc14:=NB177_179.out;have hcz15_0:w13.cell? ⟨gb179,0,none⟩=some (.int .i64 0):=(bC BK179.out 0).trans rfl;have hcz15_1:w13.cell? ⟨gb179,1,none⟩=some (.int .i64 0):=(bC BK179.out 1).trans rfl;have hcz15_2:w13.cell? ⟨gb179,2,none⟩=some (.bool false):=(bC BK179.out 2).trans rfl;have hfz15_0:=bF BK179.out 0;have hfz15_1:=bF BK179.out 1;have hfz15_2:=bF BK179.out 2)|((with_reducible refine gate_callee (f:=52) rfl ?_);refine goesL_ (some 21) rfl rfl Tryz.func52 (by kernel_rfl) rfl #[.int .i64 ((rd_T70 l0_0 x1_1).f0),.int .i64 0,.int .i64 25] rfl (by (try simp only [List.map_toArray,List.map_cons,List.map_nil]);first|done|rfl|(simp only [List.length_drop,List.length_take];rfl)) ?_;(with_reducible refine (spec_l1In.calls ((rd_T70 l0_0 x1_1).f0) 0 25 true _ A9.out).mono ?_);rintro e w' ⟨rfl,⟨nd,rfl⟩⟩;refine ⟨_,rfl,?_⟩))
          go_ret
          exact ⟨by first|rfl|(simp [errW_none,errW_some] <;> rfl)|(simp [*,errW_none,errW_some] <;> rfl),by repeat (first|(with_reducible first|exact HB.out|apply qA|apply qN|apply q1_|refine qS ?_ GE177.out|refine qS ?_ GE179.out)|exact HB.out)⟩
         ·rw [if_neg c11] at H
          have c11b0:decide (x1_1≤((rd_T70 l0_0 x1_1).f1))=false:=decide_eq_false c11
          clear c11
          obtain ⟨y181,hy181⟩:∃ y_:List Int,y_=(([(wrap64 (97+((rd_T70 l0_0 x1_1).f0))) % 256]:List Int)):=⟨_,rfl⟩
          replace H:(if (strOfNums y181).size+x5_1.size≤9223372036854775807 then (spec_l2Prefix.l0 kj3 ((rd_T70 l0_0 x1_1).f1) ((strOfNums y181) ++ x5_1) l0_0) else (none))=some r:=by first|(rw [hy181];with_reducible exact H)|(have H2_:=(Option.bind_some _ _).symm.trans H;rw [hy181];with_reducible exact H2_)|(have H2_:=(Option.bind_some _ _).symm.trans H;with_reducible exact H2_)|with_reducible exact H|(rw [hy181];exact H)|exact H
          have Ny181:=Zz.mk hy181
          clear hy181
          by_cases c16:(strOfNums y181).size+x5_1.size≤9223372036854775807
          ·rw [if_pos c16] at H
           have c16b0:=eq_true c16
           have c16b1:decide ((strOfNums y181).size+x5_1.size≤9223372036854775807)=true:=decide_eq_true c16
           try have c16b2:(9223372036854775807<(strOfNums y181).size+x5_1.size)=False:=eq_false (Nat.not_lt.2 c16)
           have H':=Zz.mk H
           clear H
           have hcz17_0:wc.cell? ⟨gb177,0,none⟩=some (.slice A0_0 l0_0.length c0_0):=(bC BK177.out 0).trans rfl
           have hfz17_0:=bF BK177.out 0
           have p178:0≤(x1_1:Int):=of_decide_eq_true (by first|(with_reducible assumption)|assumption)
           have q178:x1_1<(l0_0.length:Int):=of_decide_eq_true (by first|(with_reducible assumption)|assumption)
           obtain ⟨ad178,e178,hx178_0,hx178_1,hx178_2⟩:=at_T70 HR0_0.out x1_1 p178 q178
           cases e178
           replace hx178_0:=(HB.out.cell (World.block_lt_of_cell? w _ hx178_0)).trans hx178_0
           replace hx178_1:=(HB.out.cell (World.block_lt_of_cell? w _ hx178_1)).trans hx178_1
           replace hx178_2:=(HB.out.cell (World.block_lt_of_cell? w _ hx178_2)).trans hx178_2
           replace p178:=eq_true p178
           replace q178:=eq_true q178
           go_wp2_with (first|((with_reducible refine gate_dst (N:=6) rfl ?_);(try (refine gate_guard (by rfl) ?_;dsimp only));refine box_event ?hg (N:=6) ?hd (cs:=#[.int .i64 0,.int .i64 0,.bool false]) (t:=70) ?hr ?_;(case hd=>rfl);(case hg=>rfl);(case hr=>first|(go_simp;done)|(go_simp;rfl));intro gb179 hg w18 hbox hb;have n0_:=Zz.mk (bB (g:=gb177) (o:=.cells #[.slice (some ad178) l0_0.length c0_0] 31 (0,0)) (by (with_reducible repeat first|apply bN|apply bD|apply bA);exact BK177.out) hb);have n1_:=Zz.mk (qP (by repeat (first|(with_reducible first|exact HB.out|apply qA|apply qN|apply q1_|refine qS ?_ GE177.out)|exact HB.out)) hb);have n2_:=Zz.mk (hbox);have n3_:=Zz.mk ((by rw [hg];exact (qZ (by repeat (first|(with_reducible first|exact HB.out|apply qA|apply qN|apply q1_|refine qS ?_ GE177.out)|exact HB.out))):w.heap.size≤gb179));have n4_:=Zz.mk ((by rw [hg];exact (qZ (by repeat (first|(with_reducible first|exact HB.out|apply qA|apply qN|apply q1_|refine qS ?_ GE177.out)|exact HB.out))):w.heap.size≤gb179));have n5_:=Zz.mk ((by rw [hg];exact Nat.ne_of_lt (blk_lt (g:=gb177) (o:=.cells #[.slice (some ad178) l0_0.length c0_0] 31 (0,0)) (by (with_reducible repeat first|apply bN|apply bD|apply bA);exact BK177.out)):gb177 ≠ gb179));have n6_:=Zz.mk ((by rw [hg];exact Nat.ne_of_gt (blk_lt (g:=gb177) (o:=.cells #[.slice (some ad178) l0_0.length c0_0] 31 (0,0)) (by (with_reducible repeat first|apply bN|apply bD|apply bA);exact BK177.out)):gb179 ≠ gb177));clear BK177;clear HB;have BK177:=n0_;have HB:=n1_;have BK179:=n2_;have GW179:=n3_;have GE179:=n4_;have NB177_179:=n5_;have NB179_177:=n6_;clear n0_ n1_ n2_ n3_ n4_ n5_ n6_;clear hb hbox hg;have hnb19:=NB179_177.out;have hnc19:=NB177_179.out;have hcz20_0:w18.cell? ⟨gb179,0,none⟩=some (.int .i64 0):=(bC BK179.out 0).trans rfl;have hcz20_1:w18.cell? ⟨gb179,1,none⟩=some (.int .i64 0):=(bC BK179.out 1).trans rfl;have hcz20_2:w18.cell? ⟨gb179,2,none⟩=some (.bool false):=(bC BK179.out 2).trans rfl;have hfz20_0:=bF BK179.out 0;have hfz20_1:=bF BK179.out 1;have hfz20_2:=bF BK179.out 2)|((with_reducible refine gate_callee (f:=52) rfl ?_);refine goesL_ (some 21) rfl rfl Tryz.func52 (by kernel_rfl) rfl #[.int .i64 ((rd_T70 l0_0 x1_1).f0),.int .i64 0,.int .i64 25] rfl (by (try simp only [List.map_toArray,List.map_cons,List.map_nil]);first|done|rfl|(simp only [List.length_drop,List.length_take];rfl)) ?_;(with_reducible refine (spec_l1In.calls ((rd_T70 l0_0 x1_1).f0) 0 25 true _ A9.out).mono ?_);rintro e w' ⟨rfl,⟨nd,rfl⟩⟩;refine ⟨_,rfl,?_⟩)|((with_reducible refine gate_dst (N:=33) rfl ?_);(try (refine gate_guard (by rfl) ?_;dsimp only));refine Kd.R_lit (Kd.int .u8) _ 5 ?hg (N:=33) ?hd (xs:=([(wrap64 (97+((rd_T70 l0_0 x1_1).f0))) % 256]:List Int)) (inner:=[.int .u8 ((wrap64 (97+((rd_T70 l0_0 x1_1).f0))) % 256)]) (ok:=fun _=>True) (okp:=fun _=>True) ?hr ?hp (fun _ hk=>hk) trivial (Below.refl _ _) (Nat.le_refl _) (by simp) ?_;(case hd=>rfl);(case hg=>rfl);(case hr=>first|(go_simp;done)|(go_simp;rfl));(case hp=>exact (Reps.one (show Kd.M (Kd.int .u8) _ _ _ ((wrap64 (97+((rd_T70 l0_0 x1_1).f0))) % 256) [.int .u8 ((wrap64 (97+((rd_T70 l0_0 x1_1).f0))) % 256)] from rfl) (Reps.none _ _)));intro v182 w21 ho22 hb hg_ hnew_;clear hg_ hnew_;(first|rw [← Ny181.out] at ho22|(simp only [Int.reduceToNat] at ho22;rw [← Ny181.out] at ho22));have n0_:=Zz.mk (Kd.R_lower ho22 (qZ (by repeat (first|(with_reducible first|exact HB.out|apply qA|apply qN|apply q1_|refine qS ?_ GE177.out|refine qS ?_ GE179.out)|exact HB.out))));have n1_:=Zz.mk (bB (g:=gb177) (o:=.cells #[.slice (some ad178) l0_0.length c0_0] 31 (0,0)) (by (with_reducible repeat first|apply bN|apply bD|apply bA);refine blk_far ?_ NB177_179.out _;(with_reducible repeat first|apply bN|apply bD|apply bA);refine blk_far ?_ NB177_179.out _;(with_reducible repeat first|apply bN|apply bD|apply bA);refine blk_far ?_ NB177_179.out _;(with_reducible repeat first|apply bN|apply bD|apply bA);exact BK177.out) hb);have n2_:=Zz.mk (bB (g:=gb179) (o:=.cells #[.int .i64 ((rd_T70 l0_0 x1_1).f0),.int .i64 ((rd_T70 l0_0 x1_1).f1),.bool ((rd_T70 l0_0 x1_1).f2)] 70 (0,0)) (by (with_reducible repeat first|apply bN|apply bD|apply bA);refine blk_put (cs:=#[.int .i64 ((rd_T70 l0_0 x1_1).f0),.int .i64 ((rd_T70 l0_0 x1_1).f1),.bool false]) ?_ 2 _ rfl;(with_reducible repeat first|apply bN|apply bD|apply bA);refine blk_put (cs:=#[.int .i64 ((rd_T70 l0_0 x1_1).f0),.int .i64 0,.bool false]) ?_ 1 _ rfl;(with_reducible repeat first|apply bN|apply bD|apply bA);refine blk_put (cs:=#[.int .i64 0,.int .i64 0,.bool false]) ?_ 0 _ rfl;(with_reducible repeat first|apply bN|apply bD|apply bA);exact BK179.out) hb);have n3_:=Zz.mk (qP (by repeat (first|(with_reducible first|exact HB.out|apply qA|apply qN|apply q1_|refine qS ?_ GE177.out|refine qS ?_ GE179.out)|exact HB.out)) hb);clear BK177;clear BK179;clear HB;have HO183:=n0_;have BK177:=n1_;have BK179:=n2_;have HB:=n3_;clear n0_ n1_ n2_ n3_;clear hb ho22;have hcv23:=own_string (P:=Tryz.prog) Tryz.underlying81 Tryz.underlying5 Tryz.underlying9 (Kd.own_of_R HO183.out);have hcz24_0:w21.cell? ⟨gb179,0,none⟩=some (.int .i64 ((rd_T70 l0_0 x1_1).f0)):=(bC BK179.out 0).trans rfl;have hcz24_1:w21.cell? ⟨gb179,1,none⟩=some (.int .i64 ((rd_T70 l0_0 x1_1).f1)):=(bC BK179.out 1).trans rfl;have hcz24_2:w21.cell? ⟨gb179,2,none⟩=some (.bool ((rd_T70 l0_0 x1_1).f2)):=(bC BK179.out 2).trans rfl;have hfz24_0:=bF BK179.out 0;have hfz24_1:=bF BK179.out 1;have hfz24_2:=bF BK179.out 2))
           go_roundg kj3
           case measure=>have:=HK1.out;have:=HJ3.out;omega
           case rel=>exact ⟨((rd_T70 l0_0 x1_1).f1),((strOfNums y181) ++ x5_1),(by first|rfl|(simp;done)|(simp [*];done)),(by first|rfl|(simp;done)|(simp [*];done)),H',⟨by have:=HK1.out;have:=HJ3.out;omega⟩,⟨by (with_reducible repeat first|apply bN|apply bD|apply bA);exact BK177.out⟩,⟨by repeat (first|(with_reducible first|exact HB.out|apply qA|apply qN|apply q1_|refine qS ?_ GE177.out|refine qS ?_ GE179.out)|exact HB.out)⟩⟩
          ·rw [if_neg c16] at H
           exact absurd H (by simp)
        ·replace c10:=Bool.eq_false_iff.mpr c10
         subst c10
         have H1:(some (⟨#[63]⟩:ByteArray))=some r:=by rw [if_neg (show ¬ (false=true) by decide)] at H;exact H
         clear H
         have H:=H1
         clear H1
         obtain rfl:=Option.some.inj H
         have hcz25_0:wc.cell? ⟨gb177,0,none⟩=some (.slice A0_0 l0_0.length c0_0):=(bC BK177.out 0).trans rfl
         have hfz25_0:=bF BK177.out 0
         have p178:0≤(x1_1:Int):=of_decide_eq_true (by first|(with_reducible assumption)|assumption)
         have q178:x1_1<(l0_0.length:Int):=of_decide_eq_true (by first|(with_reducible assumption)|assumption)
         obtain ⟨ad178,e178,hx178_0,hx178_1,hx178_2⟩:=at_T70 HR0_0.out x1_1 p178 q178
         cases e178
         replace hx178_0:=(HB.out.cell (World.block_lt_of_cell? w _ hx178_0)).trans hx178_0
         replace hx178_1:=(HB.out.cell (World.block_lt_of_cell? w _ hx178_1)).trans hx178_1
         replace hx178_2:=(HB.out.cell (World.block_lt_of_cell? w _ hx178_2)).trans hx178_2
         replace p178:=eq_true p178
         replace q178:=eq_true q178
         go_wp2_with (first|((with_reducible refine gate_dst (N:=6) rfl ?_);(try (refine gate_guard (by rfl) ?_;dsimp only));refine box_event ?hg (N:=6) ?hd (cs:=#[.int .i64 0,.int .i64 0,.bool false]) (t:=70) ?hr ?_;(case hd=>rfl);(case hg=>rfl);(case hr=>first|(go_simp;done)|(go_simp;rfl));intro gb179 hg w26 hbox hb;have n0_:=Zz.mk (bB (g:=gb177) (o:=.cells #[.slice (some ad178) l0_0.length c0_0] 31 (0,0)) (by (with_reducible repeat first|apply bN|apply bD|apply bA);exact BK177.out) hb);have n1_:=Zz.mk (qP (by repeat (first|(with_reducible first|exact HB.out|apply qA|apply qN|apply q1_|refine qS ?_ GE177.out)|exact HB.out)) hb);have n2_:=Zz.mk (hbox);have n3_:=Zz.mk ((by rw [hg];exact (qZ (by repeat (first|(with_reducible first|exact HB.out|apply qA|apply qN|apply q1_|refine qS ?_ GE177.out)|exact HB.out))):w.heap.size≤gb179));have n4_:=Zz.mk ((by rw [hg];exact (qZ (by repeat (first|(with_reducible first|exact HB.out|apply qA|apply qN|apply q1_|refine qS ?_ GE177.out)|exact HB.out))):w.heap.size≤gb179));have n5_:=Zz.mk ((by rw [hg];exact Nat.ne_of_lt (blk_lt (g:=gb177) (o:=.cells #[.slice (some ad178) l0_0.length c0_0] 31 (0,0)) (by (with_reducible repeat first|apply bN|apply bD|apply bA);exact BK177.out)):gb177 ≠ gb179));have n6_:=Zz.mk ((by rw [hg];exact Nat.ne_of_gt (blk_lt (g:=gb177) (o:=.cells #[.slice (some ad178) l0_0.length c0_0] 31 (0,0)) (by (with_reducible repeat first|apply bN|apply bD|apply bA);exact BK177.out)):gb179 ≠ gb177));clear BK177;clear HB;have BK177:=n0_;have HB:=n1_;have BK179:=n2_;have GW179:=n3_;have GE179:=n4_;have NB177_179:=n5_;have NB179_177:=n6_;clear n0_ n1_ n2_ n3_ n4_ n5_ n6_;clear hb hbox hg;have hnb27:=NB179_177.out;have hnc27:=NB177_179.out;have hcz28_0:w26.cell? ⟨gb179,0,none⟩=some (.int .i64 0):=(bC BK179.out 0).trans rfl;have hcz28_1:w26.cell? ⟨gb179,1,none⟩=some (.int .i64 0):=(bC BK179.out 1).trans rfl;have hcz28_2:w26.cell? ⟨gb179,2,none⟩=some (.bool false):=(bC BK179.out 2).trans rfl;have hfz28_0:=bF BK179.out 0;have hfz28_1:=bF BK179.out 1;have hfz28_2:=bF BK179.out 2)|((with_reducible refine gate_callee (f:=52) rfl ?_);refine goesL_ (some 21) rfl rfl Tryz.func52 (by kernel_rfl) rfl #[.int .i64 ((rd_T70 l0_0 x1_1).f0),.int .i64 0,.int .i64 25] rfl (by (try simp only [List.map_toArray,List.map_cons,List.map_nil]);first|done|rfl|(simp only [List.length_drop,List.length_take];rfl)) ?_;(with_reducible refine (spec_l1In.calls ((rd_T70 l0_0 x1_1).f0) 0 25 false _ A9.out).mono ?_);rintro e w' ⟨rfl,⟨nd,rfl⟩⟩;refine ⟨_,rfl,?_⟩))
         go_ret
         exact ⟨by first|rfl|(simp [errW_none,errW_some] <;> rfl)|(simp [*,errW_none,errW_some] <;> rfl),by repeat (first|(with_reducible first|exact HB.out|apply qA|apply qN|apply q1_|refine qS ?_ GE177.out|refine qS ?_ GE179.out)|exact HB.out)⟩
       ·rw [if_neg c8] at H
        exact absurd H (by simp)
      ·rw [if_neg c7] at H
       exact absurd H (by simp)
     ·replace c6:=Bool.eq_false_iff.mpr c6
      subst c6
      have H1:(if x1_1=0 then (some x5_1) else (some (⟨#[63]⟩:ByteArray)))=some r:=by rw [if_neg (show ¬ (false=true) by decide)] at H;exact H
      clear H
      have H:=H1
      clear H1
      by_cases c29:x1_1=0
      ·rw [if_pos c29] at H
       have c29b0:(x1_1 == 0)=true:=beq_iff_eq.mpr c29
       have c29b1:(x1_1 != 0)=false:=bne_eq_false_iff_eq.mpr c29
       clear c29
       obtain rfl:=Option.some.inj H
       go_wp2
       go_ret
       exact ⟨by first|rfl|(simp [errW_none,errW_some] <;> rfl)|(simp [*,errW_none,errW_some] <;> rfl),by repeat (first|(with_reducible first|exact HB.out|apply qA|apply qN|apply q1_|refine qS ?_ GE177.out)|exact HB.out)⟩
      ·rw [if_neg c29] at H
       have c29b0:(x1_1 == 0)=false:=beq_eq_false_iff_ne.mpr c29
       have c29b1:(x1_1 != 0)=true:=bne_iff_ne.mpr c29
       obtain rfl:=Option.some.inj H
       go_wp2
       go_ret
       exact ⟨by first|rfl|(simp [errW_none,errW_some] <;> rfl)|(simp [*,errW_none,errW_some] <;> rfl),by repeat (first|(with_reducible first|exact HB.out|apply qA|apply qN|apply q1_|refine qS ?_ GE177.out)|exact HB.out)⟩
def spec_l2Words.l0:Nat→List ByteArray→Int→List (S70)→Option (List ByteArray)
 | 0,_,_,_=>none
 | k+1,x3,x4,x185000=>if x4<(x185000.length:Int) then (if 0≤x4 then (if (rd_T70 x185000 x4).f2=true then ((spec_l2Prefix.f k x185000 x4).bind fun t189=>(if x3.length<8796093022208 then (spec_l2Words.l0 k (x3 ++ [t189]) (wrap64 (x4+1)) x185000) else (none))) else (spec_l2Words.l0 k x3 (wrap64 (x4+1)) x185000)) else (none)) else (some x3)
def spec_l2Words.f (k:Nat) (l0_0:List (S70)):Option (List ByteArray):=spec_l2Words.l0 k (([]:List ByteArray)) 0 l0_0
set_option maxHeartbeats 8000000 in
set_option maxRecDepth 100000 in
theorem spec_l2Words.calls (k:Nat) (A0_0:Option Addr) (c0_0:Nat) (l0_0:List (S70)) (r:List ByteArray) (w:World) (hr0_0:Kd.C k70 w A0_0 l0_0.length l0_0) (hc0_0:l0_0.length≤c0_0) (h:spec_l2Words.f k l0_0=some r) :
  Calls Tryz.prog 27 #[.agg #[.slice A0_0 l0_0.length c0_0]] w fun e w'=>∃ v0_:Value,e=.returned (v0_)∧Kd.R Kd.string 9 w' w.heap.size (fun _=>True) v0_ r∧Below w.heap.size w w':=by
 have hu31:=Tryz.underlying31
 have HR0_0:=Zz.mk hr0_0
 have HC0_0:=Zz.mk hc0_0
 clear hr0_0 hc0_0
 have HB:=Zz.mk (Below.refl w.heap.size w)
 have H:(spec_l2Words.l0 k (([]:List ByteArray)) 0 l0_0)=some r:=h
 clear h
 obtain ⟨y185,hy185⟩:∃ y_:List ByteArray,y_=(([]:List ByteArray)):=⟨_,rfl⟩
 replace H:(spec_l2Words.l0 k y185 0 l0_0)=some r:=by first|(rw [hy185];with_reducible exact H)|(have H2_:=(Option.bind_some _ _).symm.trans H;rw [hy185];with_reducible exact H2_)|(have H2_:=(Option.bind_some _ _).symm.trans H;with_reducible exact H2_)|with_reducible exact H|(rw [hy185];exact H)|exact H
 have Ny185:=Zz.mk hy185
 clear hy185
 have H':=Zz.mk H
 clear H
 go_enter Tryz.func27,Tryz.ntmps27
 go_wp2_with (first|((with_reducible refine gate_dst (N:=1) rfl ?_);refine box_event ?hg (N:=1) ?hd (cs:=#[.slice A0_0 l0_0.length c0_0]) (t:=31) ?hr ?_;(case hd=>rfl);(case hg=>rfl);(case hr=>first|(go_simp;done)|(go_simp;rfl));intro gb184 hg w2 hbox hb;have n0_:=Zz.mk (qP (by repeat (first|(with_reducible first|exact HB.out|apply qA|apply qN|apply q1_)|exact HB.out)) hb);have n1_:=Zz.mk (hbox);have n2_:=Zz.mk ((by rw [hg];exact (qZ (by repeat (first|(with_reducible first|exact HB.out|apply qA|apply qN|apply q1_)|exact HB.out))):w.heap.size≤gb184));have n3_:=Zz.mk ((by rw [hg];exact (qZ (by repeat (first|(with_reducible first|exact HB.out|apply qA|apply qN|apply q1_)|exact HB.out))):w.heap.size≤gb184));clear HB;have HB:=n0_;have BK184:=n1_;have GW184:=n2_;have GE184:=n3_;clear n0_ n1_ n2_ n3_;clear hb hbox hg)|((with_reducible refine gate_dst (N:=5) rfl ?_);refine Kd.R_lit Kd.string _ 9 ?hg (N:=5) ?hd (xs:=([]:List ByteArray)) (inner:=[]) (ok:=fun _=>True) (okp:=fun _=>True) ?hr ?hp (fun _ hk=>hk) trivial (Below.refl _ _) (Nat.le_refl _) (by simp) ?_;(case hd=>rfl);(case hg=>rfl);(case hr=>first|(go_simp;done)|(go_simp;rfl));(case hp=>exact (Reps.none _ _));intro v186 w3 ho4 hb hg_ hnew_;clear hg_ hnew_;(first|rw [← Ny185.out] at ho4|(simp only [Int.reduceToNat] at ho4;rw [← Ny185.out] at ho4));have n0_:=Zz.mk (Kd.R_lower ho4 (qZ (by repeat (first|(with_reducible first|exact HB.out|apply qA|apply qN|apply q1_|refine qS ?_ GE184.out)|exact HB.out))));have n1_:=Zz.mk (bB (g:=gb184) (o:=.cells #[.slice A0_0 l0_0.length c0_0] 31 (0,0)) (by (with_reducible repeat first|apply bN|apply bD|apply bA);exact BK184.out) hb);have n2_:=Zz.mk (qP (by repeat (first|(with_reducible first|exact HB.out|apply qA|apply qN|apply q1_|refine qS ?_ GE184.out)|exact HB.out)) hb);clear BK184;clear HB;have HO187:=n0_;have BK184:=n1_;have HB:=n2_;clear n0_ n1_ n2_;clear hb ho4))
 go_loopg [3,4] k (fun kq v3 v4 w'=>∃ (x3_1:List ByteArray) (x4_1:Int),v4=.int .i64 x4_1∧Zz (spec_l2Words.l0 kq x3_1 x4_1 l0_0=some r)∧Zz (kq≤k)∧Zz (Kd.R Kd.string 9 w' w.heap.size (fun _=>True) v3 x3_1)∧Zz (w'.heap[gb184]?=some (.cells #[(.slice A0_0 l0_0.length c0_0)] 31 (0,0)))∧Zz (Below w.heap.size w w'))
 case atStart=>exact ⟨(y185),(0),(by first|rfl|(simp;done)|(simp [*];done)),H',⟨Nat.le_refl _⟩,⟨by (with_reducible repeat first|apply Kd.R_alloc|apply Kd.R_drewN|apply Kd.R_drew);exact HO187.out⟩,⟨by (with_reducible repeat first|apply bN|apply bD|apply bA);exact BK184.out⟩,⟨by repeat (first|(with_reducible first|exact HB.out|apply qA|apply qN|apply q1_|refine qS ?_ GE184.out)|exact HB.out)⟩⟩
 case round =>
  clear H'
  try clear c2
  try clear p2
  obtain ⟨x3_1,x4_1,rfl,HA,HK1,HO_3,BK184,HB⟩:=hrel
  cases gk with
  | zero=>exact absurd HA.out (by simp [spec_l2Words.l0])
  | succ k1 =>
   have H:=HA.out
   clear HA
   simp only [spec_l2Words.l0] at H
   by_cases c5:x4_1<(l0_0.length:Int)
   ·rw [if_pos c5] at H
    have c5b0:decide (x4_1<(l0_0.length:Int))=true:=decide_eq_true c5
    clear c5
    by_cases c6:0≤x4_1
    ·rw [if_pos c6] at H
     have c6b0:decide (0≤x4_1)=true:=decide_eq_true c6
     clear c6
     obtain ⟨bq7,hbq7⟩:∃ b_:Bool,b_=((rd_T70 l0_0 x4_1).f2):=⟨_,rfl⟩
     replace H:(if bq7=true then ((spec_l2Prefix.f k1 l0_0 x4_1).bind fun t189=>(if x3_1.length<8796093022208 then (spec_l2Words.l0 k1 (x3_1 ++ [t189]) (wrap64 (x4_1+1)) l0_0) else (none))) else (spec_l2Words.l0 k1 x3_1 (wrap64 (x4_1+1)) l0_0))=some r:=by rw [← hbq7] at H;exact H
     have Nbq7:=Zz.mk hbq7
     clear hbq7
     by_cases c8:bq7=true
     ·subst c8
      have H1:((spec_l2Prefix.f k1 l0_0 x4_1).bind fun t189=>(if x3_1.length<8796093022208 then (spec_l2Words.l0 k1 (x3_1 ++ [t189]) (wrap64 (x4_1+1)) l0_0) else (none)))=some r:=by rw [if_pos rfl] at H;exact H
      clear H
      have H:=H1
      clear H1
      replace H:=Option.bind_eq_some_iff.mp H
      obtain ⟨t189,A90,H⟩:=H
      replace H:(if x3_1.length<8796093022208 then (spec_l2Words.l0 k1 (x3_1 ++ [t189]) (wrap64 (x4_1+1)) l0_0) else (none))=some r:=H
      have A9:=Zz.mk A90
      clear A90
      by_cases c10:x3_1.length<8796093022208
      ·rw [if_pos c10] at H
       have LMc10:=Zz.mk c10
       clear c10
       obtain ⟨y190,hy190⟩:∃ y_:List ByteArray,y_=(x3_1 ++ [t189]):=⟨_,rfl⟩
       replace H:(spec_l2Words.l0 k1 y190 (wrap64 (x4_1+1)) l0_0)=some r:=by first|(rw [hy190];with_reducible exact H)|(have H2_:=(Option.bind_some _ _).symm.trans H;rw [hy190];with_reducible exact H2_)|(have H2_:=(Option.bind_some _ _).symm.trans H;with_reducible exact H2_)|with_reducible exact H|(rw [hy190];exact H)|exact H
       have Ny190:=Zz.mk hy190
       clear hy190
       have H':=Zz.mk H
       clear H
       have hcz11_0:wr.cell? ⟨gb184,0,none⟩=some (.slice A0_0 l0_0.length c0_0):=(bC BK184.out 0).trans rfl
       have hfz11_0:=bF BK184.out 0
       have p188:0≤(x4_1:Int):=of_decide_eq_true (by first|(with_reducible assumption)|assumption)
       have q188:x4_1<(l0_0.length:Int):=of_decide_eq_true (by first|(with_reducible assumption)|assumption)
       obtain ⟨ad188,e188,hx188_0,hx188_1,hx188_2⟩:=at_T70 HR0_0.out x4_1 p188 q188
       (try rw [← Nbq7.out] at hx188_2)
       cases e188
       replace hx188_0:=(HB.out.cell (World.block_lt_of_cell? w _ hx188_0)).trans hx188_0
       replace hx188_1:=(HB.out.cell (World.block_lt_of_cell? w _ hx188_1)).trans hx188_1
       replace hx188_2:=(HB.out.cell (World.block_lt_of_cell? w _ hx188_2)).trans hx188_2
       replace p188:=eq_true p188
       replace q188:=eq_true q188
       go_wp2_with (first|((with_reducible refine gate_callee (f:=41) rfl ?_);refine goesL_ (some 22) rfl rfl Tryz.func41 (by kernel_rfl) rfl #[.agg #[.slice (some ad188) l0_0.length c0_0],.int .i64 x4_1] rfl (by (try simp only [List.map_toArray,List.map_cons,List.map_nil]);first|done|rfl|(simp only [List.length_drop,List.length_take];rfl)) ?_;(with_reducible refine (spec_l2Prefix.calls k1 _ _ l0_0 x4_1 t189 _ ?side1 ?side2 A9.out).mono ?_);(case side1=>repeat (first|exact (Kd.C_below HR0_0.out HB.out)|(with_reducible refine Kd.C_alloc ?_ _)|(with_reducible refine Kd.C_drewN ?_ _)|(with_reducible refine Kd.C_drew ?_)));(case side2=>exact HC0_0.out);rintro e w12 ⟨rfl,hb⟩;refine ⟨_,rfl,?_⟩;have n0_:=Zz.mk (Kd.R_below (by (with_reducible repeat first|apply Kd.R_alloc|apply Kd.R_drewN|apply Kd.R_drew);exact HO_3.out) hb);have n1_:=Zz.mk (bB (g:=gb184) (o:=.cells #[.slice (some ad188) l0_0.length c0_0] 31 (0,0)) (by (with_reducible repeat first|apply bN|apply bD|apply bA);exact BK184.out) hb);have n2_:=Zz.mk (qP (by repeat (first|(with_reducible first|exact HB.out|apply qA|apply qN|apply q1_|refine qS ?_ GE184.out)|exact HB.out)) hb);clear HO_3;clear BK184;clear HB;have HO_3:=n0_;have BK184:=n1_;have HB:=n2_;clear n0_ n1_ n2_;(try clear hb);(try clear hb2);(try clear hk);(try clear hi))|((with_reducible refine gate_builtin (b:=.append) (xs:=#[.tmp 19,.tmp 23]) rfl ?_);at_builtin;refine Kd.R_append Kd.string (w0:=w) w.heap.size rfl (.tmp 19) (.tmp 23) 43 9 (.string ⟨#[]⟩) 16 rfl Tryz.underlying43 info9 rfl (by decide) (by omega) u3 x3_1 t189 [.string t189] (fun _=>True) (fun _=>False) rfl rfl ?aP (fun _ hk=>hk.elim) ?aF ?aO ?aB ?aS ?aL ?_;(case aP=>exact rfl);(case aB=>exact (by repeat (first|(with_reducible first|exact HB.out|apply qA|apply qN|apply q1_|refine qS ?_ GE184.out)|exact HB.out)));(case aF=>exact (fun _ _=>trivial));(case aO=>exact (by (with_reducible repeat first|apply Kd.R_alloc|apply Kd.R_drewN|apply Kd.R_drew);exact HO_3.out));(case aS=>exact (qZ (by repeat (first|(with_reducible first|exact HB.out|apply qA|apply qN|apply q1_|refine qS ?_ GE184.out)|exact HB.out))));(case aL=>have:=LMc10.out;omega);intro v191 w13 ho hb hg hat;rw [← Ny190.out] at ho;have n0_:=Zz.mk (blk_grown (g:=gb184) (o:=.cells #[.slice (some ad188) l0_0.length c0_0] 31 (0,0)) (by (with_reducible repeat first|apply bN|apply bD|apply bA);exact BK184.out) hg (Kd.R_ne HO_3.out BK184.out (by decide)));have n1_:=Zz.mk (hb);have n2_:=Zz.mk (ho);clear BK184;clear HB;clear HO_3;have BK184:=n0_;have HB:=n1_;have HO192:=n2_;clear n0_ n1_ n2_;clear ho hb hg hat))
       go_roundg k1
       case measure=>have:=HK1.out;omega
       case rel=>exact ⟨(y190),(wrap64 (x4_1+1)),(by first|rfl|(simp;done)|(simp [*];done)),H',⟨by have:=HK1.out;omega⟩,⟨by (with_reducible repeat first|apply Kd.R_alloc|apply Kd.R_drewN|apply Kd.R_drew);exact HO192.out⟩,⟨by (with_reducible repeat first|apply bN|apply bD|apply bA);exact BK184.out⟩,⟨by repeat (first|(with_reducible first|exact HB.out|apply qA|apply qN|apply q1_|refine qS ?_ GE184.out)|exact HB.out)⟩⟩
      ·rw [if_neg c10] at H
       exact absurd H (by simp)
     ·replace c8:=Bool.eq_false_iff.mpr c8
      subst c8
      have H1:(spec_l2Words.l0 k1 x3_1 (wrap64 (x4_1+1)) l0_0)=some r:=by rw [if_neg (show ¬ (false=true) by decide)] at H;exact H
      clear H
      have H:=H1
      clear H1
      have H':=Zz.mk H
      clear H
      have hcz14_0:wr.cell? ⟨gb184,0,none⟩=some (.slice A0_0 l0_0.length c0_0):=(bC BK184.out 0).trans rfl
      have hfz14_0:=bF BK184.out 0
      have p188:0≤(x4_1:Int):=of_decide_eq_true (by first|(with_reducible assumption)|assumption)
      have q188:x4_1<(l0_0.length:Int):=of_decide_eq_true (by first|(with_reducible assumption)|assumption)
      obtain ⟨ad188,e188,hx188_0,hx188_1,hx188_2⟩:=at_T70 HR0_0.out x4_1 p188 q188
      (try rw [← Nbq7.out] at hx188_2)
      cases e188
      replace hx188_0:=(HB.out.cell (World.block_lt_of_cell? w _ hx188_0)).trans hx188_0
      replace hx188_1:=(HB.out.cell (World.block_lt_of_cell? w _ hx188_1)).trans hx188_1
      replace hx188_2:=(HB.out.cell (World.block_lt_of_cell? w _ hx188_2)).trans hx188_2
      replace p188:=eq_true p188
      replace q188:=eq_true q188
      go_wp2
      go_roundg k1
      case measure=>have:=HK1.out;omega
      case rel=>exact ⟨(x3_1),(wrap64 (x4_1+1)),(by first|rfl|(simp;done)|(simp [*];done)),H',⟨by have:=HK1.out;omega⟩,⟨by (with_reducible repeat first|apply Kd.R_alloc|apply Kd.R_drewN|apply Kd.R_drew);exact HO_3.out⟩,⟨by (with_reducible repeat first|apply bN|apply bD|apply bA);exact BK184.out⟩,⟨by repeat (first|(with_reducible first|exact HB.out|apply qA|apply qN|apply q1_|refine qS ?_ GE184.out)|exact HB.out)⟩⟩
    ·rw [if_neg c6] at H
     exact absurd H (by simp)
   ·rw [if_neg c5] at H
    have c5b0:decide (x4_1<(l0_0.length:Int))=false:=decide_eq_false c5
    clear c5
    obtain rfl:=Option.some.inj H
    have hcz15_0:wr.cell? ⟨gb184,0,none⟩=some (.slice A0_0 l0_0.length c0_0):=(bC BK184.out 0).trans rfl
    have hfz15_0:=bF BK184.out 0
    go_wp2
    go_ret
    exact ⟨_,by first|rfl|(simp [errW_none,errW_some] <;> rfl)|(simp [*,errW_none,errW_some] <;> rfl),by (with_reducible repeat first|apply Kd.R_alloc|apply Kd.R_drewN|apply Kd.R_drew);exact HO_3.out,by repeat (first|(with_reducible first|exact HB.out|apply qA|apply qN|apply q1_|refine qS ?_ GE184.out)|exact HB.out)⟩
mutual
def spec_l2Word.l0:Nat→ByteArray→Int→Option (Bool)
 | 0,_,_=>none
 | k+1,x0,x3=>if x3<(x0.size:Int) then (spec_l2Word.j1 k x0 x3 (decide (x3≤12))) else (spec_l2Word.j1 k x0 x3 false)
def spec_l2Word.j1:Nat→ByteArray→Int→Bool→Option (Bool)
 | 0,_,_,_=>none
 | k+1,x0,x3,x11=>if x11=true then (if 0≤x3 then (if x3<(x0.size:Int) then (if (bt x0 x3)<97 then (some false) else (if (bt x0 x3) > 122 then (some false) else (spec_l2Word.l0 k x0 (wrap64 (x3+1))))) else (none)) else (none)) else (some (decide ((x0.size:Int)≤12)))
end
def spec_l2Word.f (k:Nat) (a0:ByteArray):Option (Bool):=spec_l2Word.l0 k a0 0
set_option maxHeartbeats 8000000 in
set_option maxRecDepth 100000 in
theorem spec_l2Word.calls (k:Nat) (a0:ByteArray) (r:Bool) (w:World) (h:spec_l2Word.f k a0=some r) :
  Calls Tryz.prog 66 #[.string a0] w fun e w'=>e=.returned (.bool r)∧Drawn0 w w':=by
 have H:(spec_l2Word.l0 k a0 0)=some r:=h
 clear h
 have H':=Zz.mk H
 clear H
 go_enter Tryz.func66,Tryz.ntmps66
 go_wp2
 go_loopg [3] k (fun kq v3 w'=>∃ (x3_1:Int),v3=.int .i64 x3_1∧Zz (spec_l2Word.l0 kq a0 x3_1=some r)∧Zz (kq≤k)∧Drawn0 w w')
 case atStart=>exact ⟨(0),(by first|rfl|(simp;done)|(simp [*];done)),H',⟨Nat.le_refl _⟩,by repeat (first|exact Drawn0.refl _|apply Drawn0.step)⟩
 case round =>
  clear H'
  obtain ⟨x3_1,rfl,HA,HK1,⟨m1,rfl⟩⟩:=hrel
  cases gk with
  | zero=>exact absurd HA.out (by simp [spec_l2Word.l0])
  | succ k1 =>
   have H:=HA.out
   clear HA
   simp only [spec_l2Word.l0] at H
   have HC2:=Zz.mk H
   clear H
   go_upto_region 2 with (fail)
   go_cut [11] (fun v11 wc=>∃ (kq:Nat) (x11_1:Bool),v11=.bool x11_1∧Zz (spec_l2Word.j1 kq a0 x3_1 x11_1=some r)∧Zz (kq≤k1)∧Drawn0 w wc)
   case first =>
    have H:=HC2.out
    clear HC2
    by_cases c3:x3_1<(a0.size:Int)
    ·rw [if_pos c3] at H
     have c3b0:decide (x3_1<(a0.size:Int))=true:=decide_eq_true c3
     clear c3
     (first|rw [c3b0]|(simp only [i64_w,i32_w];rw [c3b0])|skip)
     have H':=Zz.mk H
     clear H
     go_wp2
     go_meet
     case rel=>exact ⟨_,(decide (x3_1≤12)),(by first|rfl|(simp;done)|(simp [*];done)),H',⟨by have:=HK1.out;first|omega|exact Nat.le_refl _⟩,by repeat (first|exact Drawn0.refl _|apply Drawn0.step)⟩
    ·rw [if_neg c3] at H
     have c3b0:decide (x3_1<(a0.size:Int))=false:=decide_eq_false c3
     clear c3
     (first|rw [c3b0]|(simp only [i64_w,i32_w];rw [c3b0])|skip)
     have H':=Zz.mk H
     clear H
     go_wp2
     go_meet
     case rel=>exact ⟨_,(false),(by first|rfl|(simp;done)|(simp [*];done)),H',⟨by have:=HK1.out;first|omega|exact Nat.le_refl _⟩,by repeat (first|exact Drawn0.refl _|apply Drawn0.step)⟩
   case rest =>
    clear HC2
    try clear p2
    try clear c3
    try clear c3b0
    obtain ⟨kq,x11_1,rfl,HA,HJ1,⟨mc1,rfl⟩⟩:=hcut
    cases kq with
    | zero=>exact absurd HA.out (by simp [spec_l2Word.j1])
    | succ kj1 =>
     have H:=HA.out
     clear HA
     simp only [spec_l2Word.j1] at H
     by_cases c4:x11_1=true
     ·subst c4
      have H1:(if 0≤x3_1 then (if x3_1<(a0.size:Int) then (if (bt a0 x3_1)<97 then (some false) else (if (bt a0 x3_1) > 122 then (some false) else (spec_l2Word.l0 kj1 a0 (wrap64 (x3_1+1))))) else (none)) else (none))=some r:=by rw [if_pos rfl] at H;exact H
      clear H
      have H:=H1
      clear H1
      by_cases c5:0≤x3_1
      ·rw [if_pos c5] at H
       have c5b0:decide (0≤x3_1)=true:=decide_eq_true c5
       clear c5
       by_cases c6:x3_1<(a0.size:Int)
       ·rw [if_pos c6] at H
        have c6b0:decide (x3_1<(a0.size:Int))=true:=decide_eq_true c6
        clear c6
        by_cases c8:(bt a0 x3_1)<97
        ·rw [if_pos c8] at H
         have c8b0:decide ((bt a0 x3_1)<97)=true:=decide_eq_true c8
         clear c8
         obtain rfl:=Option.some.inj H
         have p7:0≤(x3_1:Int):=of_decide_eq_true (by first|(with_reducible assumption)|assumption)
         have q7:x3_1<(a0.size:Int):=of_decide_eq_true (by first|(with_reducible assumption)|assumption)
         have hx7:=bt_at a0 x3_1
         replace p7:=eq_true p7
         replace q7:=eq_true q7
         go_wp2
         go_ret
         exact ⟨by first|rfl|(simp;done)|(simp [*];done),by repeat (first|exact Drawn0.refl _|apply Drawn0.step)⟩
        ·rw [if_neg c8] at H
         have c8b0:decide ((bt a0 x3_1)<97)=false:=decide_eq_false c8
         clear c8
         by_cases c10:(bt a0 x3_1) > 122
         ·rw [if_pos c10] at H
          have c10b0:decide (122<(bt a0 x3_1))=true:=decide_eq_true c10
          clear c10
          obtain rfl:=Option.some.inj H
          have p7:0≤(x3_1:Int):=of_decide_eq_true (by first|(with_reducible assumption)|assumption)
          have q7:x3_1<(a0.size:Int):=of_decide_eq_true (by first|(with_reducible assumption)|assumption)
          have hx7:=bt_at a0 x3_1
          replace p7:=eq_true p7
          replace q7:=eq_true q7
          have p9:0≤(x3_1:Int):=of_decide_eq_true (by first|(with_reducible assumption)|assumption)
          have q9:x3_1<(a0.size:Int):=of_decide_eq_true (by first|(with_reducible assumption)|assumption)
          have hx9:=bt_at a0 x3_1
          replace p9:=eq_true p9
          replace q9:=eq_true q9
          go_wp2
          go_ret
          exact ⟨by first|rfl|(simp;done)|(simp [*];done),by repeat (first|exact Drawn0.refl _|apply Drawn0.step)⟩
         ·rw [if_neg c10] at H
          have c10b0:decide (122<(bt a0 x3_1))=false:=decide_eq_false c10
          clear c10
          have H':=Zz.mk H
          clear H
          have p7:0≤(x3_1:Int):=of_decide_eq_true (by first|(with_reducible assumption)|assumption)
          have q7:x3_1<(a0.size:Int):=of_decide_eq_true (by first|(with_reducible assumption)|assumption)
          have hx7:=bt_at a0 x3_1
          replace p7:=eq_true p7
          replace q7:=eq_true q7
          have p9:0≤(x3_1:Int):=of_decide_eq_true (by first|(with_reducible assumption)|assumption)
          have q9:x3_1<(a0.size:Int):=of_decide_eq_true (by first|(with_reducible assumption)|assumption)
          have hx9:=bt_at a0 x3_1
          replace p9:=eq_true p9
          replace q9:=eq_true q9
          go_wp2
          go_roundg kj1
          case measure=>have:=HK1.out;have:=HJ1.out;omega
          case rel=>exact ⟨(wrap64 (x3_1+1)),(by first|rfl|(simp;done)|(simp [*];done)),H',⟨by have:=HK1.out;have:=HJ1.out;omega⟩,by repeat (first|exact Drawn0.refl _|apply Drawn0.step)⟩
       ·rw [if_neg c6] at H
        exact absurd H (by simp)
      ·rw [if_neg c5] at H
       exact absurd H (by simp)
     ·replace c4:=Bool.eq_false_iff.mpr c4
      subst c4
      have H1:(some (decide ((a0.size:Int)≤12)))=some r:=by rw [if_neg (show ¬ (false=true) by decide)] at H;exact H
      clear H
      have H:=H1
      clear H1
      obtain rfl:=Option.some.inj H
      go_wp2
      go_ret
      exact ⟨by first|rfl|(simp;done)|(simp [*];done),by repeat (first|exact Drawn0.refl _|apply Drawn0.step)⟩
end Go.Proofs.YtadpmgdmiaoniaaGreatDoor.Q
namespace Go.Proofs.YtadpmgdmiaoniaaGreatDoor.Q
open Go.RowKit Go.Proofs.YtadpmgdmiaoniaaGreatDoorW.PrintWords Go.Proofs.YtadpmgdmiaoniaaGreatDoorW.PrintLast Go.Proofs.YtadpmgdmiaoniaaGreatDoorW.PrintMore
attribute [local go_sem] run_field_23 run_field_24 run_field_30 run_field_31 isSome_setCell max2_int min2_int max_two min_two max_three min_three max_four min_four   -- for this text's walks alone
set_option linter.unusedVariables false
set_option linter.unusedSimpArgs false
mutual
def spec_l2Before.l0:Nat→ByteArray→ByteArray→Int→Option (Bool)
  | 0,_,_,_=>none
  | k+1,x0,x1,x5=>if x5<(x0.size:Int) then (spec_l2Before.j1 k x0 x1 x5 (decide (x5<(x1.size:Int)))) else (spec_l2Before.j1 k x0 x1 x5 false)
def spec_l2Before.j1:Nat→ByteArray→ByteArray→Int→Bool→Option (Bool)
  | 0,_,_,_,_=>none
  | k+1,x0,x1,x5,x15=>if x15=true then (if 0≤x5 then (if x5<(x0.size:Int) then (if x5<(x1.size:Int) then (if (bt x0 x5)=(bt x1 x5) then (spec_l2Before.l0 k x0 x1 (wrap64 (x5+1))) else (some (decide ((bt x0 x5)<(bt x1 x5))))) else (none)) else (none)) else (none)) else (some (decide ((x0.size:Int)<(x1.size:Int))))
end
def spec_l2Before.f (k:Nat) (a0:ByteArray) (a1:ByteArray):Option (Bool):=spec_l2Before.l0 k a0 a1 0
set_option maxHeartbeats 8000000 in
set_option maxRecDepth 100000 in
theorem spec_l2Before.calls (k:Nat) (a0:ByteArray) (a1:ByteArray) (r:Bool) (w:World) (h:spec_l2Before.f k a0 a1=some r) :
  Calls Tryz.prog 94 #[.string a0,.string a1] w fun e w'=>e=.returned (.bool r)∧Drawn0 w w':=by
 have H:(spec_l2Before.l0 k a0 a1 0)=some r:=h
 clear h
 have H':=Zz.mk H
 clear H
 go_enter Tryz.func94,Tryz.ntmps94
 go_wp2
 repeat (go_quiet (fail);try go_wp2)
 go_loopg [5] k (fun kq v5 w'=>∃ (x5_1:Int),v5=.int .i64 x5_1∧Zz (spec_l2Before.l0 kq a0 a1 x5_1=some r)∧Zz (kq≤k)∧Drawn0 w w')
 case atStart=>exact ⟨(0),(by first|rfl|(simp;done)|(simp [*];done)),H',⟨Nat.le_refl _⟩,by repeat (first|exact Drawn0.refl _|apply Drawn0.step)⟩
 case round =>
  clear H'
  try clear p2
  obtain ⟨x5_1,rfl,HA,HK1,⟨m1,rfl⟩⟩:=hrel
  cases gk with
  | zero=>exact absurd HA.out (by simp [spec_l2Before.l0])
  | succ k1 =>
   have H:=HA.out
   clear HA
   simp only [spec_l2Before.l0] at H
   have HC3:=Zz.mk H
   clear H
   go_upto_region 2 with (fail)
   repeat (go_quiet (fail);go_upto_region 2 with (fail))
   go_cut [15] (fun v15 wc=>∃ (kq:Nat) (x15_2:Bool),v15=.bool x15_2∧Zz (spec_l2Before.j1 kq a0 a1 x5_1 x15_2=some r)∧Zz (kq≤k1)∧Drawn0 w wc)
   case first =>
    have H:=HC3.out
    clear HC3
    by_cases c4:x5_1<(a0.size:Int)
    ·rw [if_pos c4] at H
     have c4b0:decide (x5_1<(a0.size:Int))=true:=decide_eq_true c4
     clear c4
     (first|rw [c4b0]|(simp only [i64_w,i32_w];rw [c4b0])|skip)
     have H':=Zz.mk H
     clear H
     go_wp2
     repeat (go_quiet (fail);try go_wp2)
     go_meet
     case rel=>exact ⟨_,(decide (x5_1<(a1.size:Int))),(by first|rfl|(simp;done)|(simp [*];done)),H',⟨by have:=HK1.out;first|omega|exact Nat.le_refl _⟩,by repeat (first|exact Drawn0.refl _|apply Drawn0.step)⟩
    ·rw [if_neg c4] at H
     have c4b0:decide (x5_1<(a0.size:Int))=false:=decide_eq_false c4
     clear c4
     (first|rw [c4b0]|(simp only [i64_w,i32_w];rw [c4b0])|skip)
     have H':=Zz.mk H
     clear H
     go_wp2
     repeat (go_quiet (fail);try go_wp2)
     go_meet
     case rel=>exact ⟨_,(false),(by first|rfl|(simp;done)|(simp [*];done)),H',⟨by have:=HK1.out;first|omega|exact Nat.le_refl _⟩,by repeat (first|exact Drawn0.refl _|apply Drawn0.step)⟩
   case rest =>
    clear HC3
    try clear p2
    try clear c4
    try clear c4b0
    try clear p2
    obtain ⟨kq,x15_2,rfl,HA,HJ2,⟨mc2,rfl⟩⟩:=hcut
    cases kq with
    | zero=>exact absurd HA.out (by simp [spec_l2Before.j1])
    | succ kj2 =>
     have H:=HA.out
     clear HA
     simp only [spec_l2Before.j1] at H
     by_cases c5:x15_2=true
     ·subst c5
      have H1:(if 0≤x5_1 then (if x5_1<(a0.size:Int) then (if x5_1<(a1.size:Int) then (if (bt a0 x5_1)=(bt a1 x5_1) then (spec_l2Before.l0 kj2 a0 a1 (wrap64 (x5_1+1))) else (some (decide ((bt a0 x5_1)<(bt a1 x5_1))))) else (none)) else (none)) else (none))=some r:=by rw [if_pos rfl] at H;exact H
      clear H
      have H:=H1
      clear H1
      by_cases c6:0≤x5_1
      ·rw [if_pos c6] at H
       have c6b0:decide (0≤x5_1)=true:=decide_eq_true c6
       clear c6
       by_cases c7:x5_1<(a0.size:Int)
       ·rw [if_pos c7] at H
        have c7b0:decide (x5_1<(a0.size:Int))=true:=decide_eq_true c7
        clear c7
        by_cases c9:x5_1<(a1.size:Int)
        ·rw [if_pos c9] at H
         have c9b0:decide (x5_1<(a1.size:Int))=true:=decide_eq_true c9
         clear c9
         by_cases c11:(bt a0 x5_1)=(bt a1 x5_1)
         ·rw [if_pos c11] at H
          have c11b0:((bt a0 x5_1) == (bt a1 x5_1))=true:=beq_iff_eq.mpr c11
          have c11b1:((bt a0 x5_1) != (bt a1 x5_1))=false:=bne_eq_false_iff_eq.mpr c11
          clear c11
          have H':=Zz.mk H
          clear H
          have p8:0≤(x5_1:Int):=of_decide_eq_true (by first|(with_reducible assumption)|assumption)
          have q8:x5_1<(a0.size:Int):=of_decide_eq_true (by first|(with_reducible assumption)|assumption)
          have hx8:=bt_at a0 x5_1
          replace p8:=eq_true p8
          replace q8:=eq_true q8
          have p10:0≤(x5_1:Int):=of_decide_eq_true (by first|(with_reducible assumption)|assumption)
          have q10:x5_1<(a1.size:Int):=of_decide_eq_true (by first|(with_reducible assumption)|assumption)
          have hx10:=bt_at a1 x5_1
          replace p10:=eq_true p10
          replace q10:=eq_true q10
          go_wp2
          repeat (go_quiet (fail);try go_wp2)
          go_roundg kj2
          case measure=>have:=HK1.out;have:=HJ2.out;omega
          case rel=>exact ⟨(wrap64 (x5_1+1)),(by first|rfl|(simp;done)|(simp [*];done)),H',⟨by have:=HK1.out;have:=HJ2.out;omega⟩,by repeat (first|exact Drawn0.refl _|apply Drawn0.step)⟩
         ·rw [if_neg c11] at H
          have c11b0:((bt a0 x5_1) == (bt a1 x5_1))=false:=beq_eq_false_iff_ne.mpr c11
          have c11b1:((bt a0 x5_1) != (bt a1 x5_1))=true:=bne_iff_ne.mpr c11
          obtain rfl:=Option.some.inj H
          have p8:0≤(x5_1:Int):=of_decide_eq_true (by first|(with_reducible assumption)|assumption)
          have q8:x5_1<(a0.size:Int):=of_decide_eq_true (by first|(with_reducible assumption)|assumption)
          have hx8:=bt_at a0 x5_1
          replace p8:=eq_true p8
          replace q8:=eq_true q8
          have p10:0≤(x5_1:Int):=of_decide_eq_true (by first|(with_reducible assumption)|assumption)
          have q10:x5_1<(a1.size:Int):=of_decide_eq_true (by first|(with_reducible assumption)|assumption)
          have hx10:=bt_at a1 x5_1
          replace p10:=eq_true p10
          replace q10:=eq_true q10
          have p12:0≤(x5_1:Int):=of_decide_eq_true (by first|(with_reducible assumption)|assumption)
          have q12:x5_1<(a0.size:Int):=of_decide_eq_true (by first|(with_reducible assumption)|assumption)
          have hx12:=bt_at a0 x5_1
          replace p12:=eq_true p12
          replace q12:=eq_true q12
          have p13:0≤(x5_1:Int):=of_decide_eq_true (by first|(with_reducible assumption)|assumption)
          have q13:x5_1<(a1.size:Int):=of_decide_eq_true (by first|(with_reducible assumption)|assumption)
          have hx13:=bt_at a1 x5_1
          replace p13:=eq_true p13
          replace q13:=eq_true q13
          go_wp2
          repeat (go_quiet (fail);try go_wp2)
          go_ret
          exact ⟨by first|rfl|(simp;done)|(simp [*];done),by repeat (first|exact Drawn0.refl _|apply Drawn0.step)⟩
        ·rw [if_neg c9] at H
         exact absurd H (by simp)
       ·rw [if_neg c7] at H
        exact absurd H (by simp)
      ·rw [if_neg c6] at H
       exact absurd H (by simp)
     ·replace c5:=Bool.eq_false_iff.mpr c5
      subst c5
      have H1:(some (decide ((a0.size:Int)<(a1.size:Int))))=some r:=by rw [if_neg (show ¬ (false=true) by decide)] at H;exact H
      clear H
      have H:=H1
      clear H1
      obtain rfl:=Option.some.inj H
      go_wp2
      repeat (go_quiet (fail);try go_wp2)
      go_ret
      exact ⟨by first|rfl|(simp;done)|(simp [*];done),by repeat (first|exact Drawn0.refl _|apply Drawn0.step)⟩
def spec_l2Own.f (l0:List ByteArray):Option (List ByteArray):=(some (([]:List ByteArray):List ByteArray)).bind fun y193=>(if y193.length+l0.length<8796093022208 then (some (y193 ++ l0)) else (none))
set_option maxHeartbeats 8000000 in
set_option maxRecDepth 100000 in
theorem spec_l2Own.calls (A0:Option Addr) (c0:Nat) (l0:List ByteArray) (r:List ByteArray) (w:World) (hr0:Kd.C Kd.string w A0 l0.length l0) (hc0:l0.length≤c0) (h:spec_l2Own.f l0=some r) :
  Calls Tryz.prog 95 #[.slice A0 l0.length c0] w fun e w'=>∃ v0_:Value,e=.returned (v0_)∧Kd.R Kd.string 9 w' w.heap.size (fun _=>True) v0_ r∧Below w.heap.size w w':=by
 have HR0:=Zz.mk hr0
 have HC0:=Zz.mk hc0
 clear hr0 hc0
 have HB:=Zz.mk (Below.refl w.heap.size w)
 have H:((some (([]:List ByteArray):List ByteArray)).bind fun y193=>(if y193.length+l0.length<8796093022208 then (some (y193 ++ l0)) else (none)))=some r:=h
 clear h
 obtain ⟨y193,hy193⟩:∃ y_:List ByteArray,y_=(([]:List ByteArray)):=⟨_,rfl⟩
 replace H:(if y193.length+l0.length<8796093022208 then (some (y193 ++ l0)) else (none))=some r:=by first|(rw [hy193];with_reducible exact H)|(have H2_:=(Option.bind_some _ _).symm.trans H;rw [hy193];with_reducible exact H2_)|(have H2_:=(Option.bind_some _ _).symm.trans H;with_reducible exact H2_)|with_reducible exact H|(rw [hy193];exact H)|exact H
 have Ny193:=Zz.mk hy193
 clear hy193
 by_cases c2:y193.length+l0.length<8796093022208
 ·rw [if_pos c2] at H
  have LMc2:=Zz.mk c2
  clear c2
  obtain ⟨y196,hy196⟩:∃ y_:List ByteArray,y_=(y193 ++ l0):=⟨_,rfl⟩
  replace H:(some y196)=some r:=by first|(rw [hy196];with_reducible exact H)|(have H2_:=(Option.bind_some _ _).symm.trans H;rw [hy196];with_reducible exact H2_)|(have H2_:=(Option.bind_some _ _).symm.trans H;with_reducible exact H2_)|with_reducible exact H|(rw [hy196];exact H)|exact H
  have Ny196:=Zz.mk hy196
  clear hy196
  obtain rfl:=Option.some.inj H
  go_enter Tryz.func95,Tryz.ntmps95
  go_wp2_with (first|((with_reducible refine gate_dst (N:=3) rfl ?_);refine Kd.R_lit Kd.string _ 9 ?hg (N:=3) ?hd (xs:=([]:List ByteArray)) (inner:=[]) (ok:=fun _=>True) (okp:=fun _=>True) ?hr ?hp (fun _ hk=>hk) trivial (Below.refl _ _) (Nat.le_refl _) (by simp) ?_;(case hd=>rfl);(case hg=>rfl);(case hr=>first|(go_simp;done)|(go_simp;rfl));(case hp=>exact (Reps.none _ _));intro v194 w3 ho4 hb hg_ hnew_;clear hg_ hnew_;(first|rw [← Ny193.out] at ho4|(simp only [Int.reduceToNat] at ho4;rw [← Ny193.out] at ho4));have n0_:=Zz.mk (Kd.R_lower ho4 (qZ (by repeat (first|(with_reducible first|exact HB.out|apply qA|apply qN|apply q1_)|exact HB.out))));have n1_:=Zz.mk (qP (by repeat (first|(with_reducible first|exact HB.out|apply qA|apply qN|apply q1_)|exact HB.out)) hb);clear HB;have HO195:=n0_;have HB:=n1_;clear n0_ n1_;clear hb ho4)|((with_reducible refine gate_builtin (b:=.append) (xs:=#[.tmp 3,.tmp 4]) rfl ?_);at_builtin;refine Kd.R_append_rows Kd.string (w0:=w) w.heap.size rfl (.tmp 3) (.tmp 4) 43 9 (.string ⟨#[]⟩) 16 rfl Tryz.underlying43 info9 rfl (by decide) (by omega) v194 y193 l0 _ _ _ (fun _=>True) (fun _=>False) rfl rfl ?aO ?aR (fun _ _ h=>h) (fun _ h=>h.elim) ?aF ?aB ?aS ?aL ?_;(case aR=>repeat (first|exact (Kd.C_below HR0.out HB.out)|(with_reducible refine Kd.C_alloc ?_ _)|(with_reducible refine Kd.C_drewN ?_ _)|(with_reducible refine Kd.C_drew ?_)));(case aB=>exact (by repeat (first|(with_reducible first|exact HB.out|apply qA|apply qN|apply q1_)|exact HB.out)));(case aF=>exact (fun _ _=>trivial));(case aO=>exact (by (with_reducible repeat first|apply Kd.R_alloc|apply Kd.R_drewN|apply Kd.R_drew);exact HO195.out));(case aS=>exact (qZ (by repeat (first|(with_reducible first|exact HB.out|apply qA|apply qN|apply q1_)|exact HB.out))));(case aL=>have:=LMc2.out;omega);intro v197 w5 ho hb hg hat;rw [← Ny196.out] at ho;have n0_:=Zz.mk (hb);have n1_:=Zz.mk (ho);clear HB;clear HO195;have HB:=n0_;have HO198:=n1_;clear n0_ n1_;clear ho hb hg hat))
  go_ret
  exact ⟨_,by first|rfl|(simp [errW_none,errW_some] <;> rfl)|(simp [*,errW_none,errW_some] <;> rfl),by (with_reducible repeat first|apply Kd.R_alloc|apply Kd.R_drewN|apply Kd.R_drew);exact HO198.out,by repeat (first|(with_reducible first|exact HB.out|apply qA|apply qN|apply q1_)|exact HB.out)⟩
 ·rw [if_neg c2] at H
  exact absurd H (by simp)
end Go.Proofs.YtadpmgdmiaoniaaGreatDoor.Q
namespace Go.Proofs.YtadpmgdmiaoniaaGreatDoor.Q
open Go.RowKit Go.Proofs.YtadpmgdmiaoniaaGreatDoorW.PrintWords Go.Proofs.YtadpmgdmiaoniaaGreatDoorW.PrintLast Go.Proofs.YtadpmgdmiaoniaaGreatDoorW.PrintMore
attribute [local go_sem] run_field_23 run_field_24 run_field_30 run_field_31 isSome_setCell max2_int min2_int max_two min_two max_three min_three max_four min_four   -- for this text's walks alone
set_option linter.unusedVariables false
set_option linter.unusedSimpArgs false
def spec_l2Put.l0:Nat→List ByteArray→ByteArray→Int→Option (List ByteArray)
  | 0,_,_,_=>none
  | k+1,x0,x1,x5=>if x5<(x0.length:Int) then (if 0≤x5 then ((spec_l2Before.f k (rdOf ByteArray.empty x0 x5) x1).bind fun t200=>(if t200=true then (spec_l2Put.l0 k x0 x1 (wrap64 (x5+1))) else (if (rdOf ByteArray.empty x0 x5).toList=x1.toList then (some x0) else (if x5≤(x0.length:Int) then ((spec_l2Own.f (x0.take (x5:Int).toNat)).bind fun t207=>((some (([x1]:List ByteArray):List ByteArray)).bind fun y210=>(if t207.length+y210.length<8796093022208 then ((some (t207 ++ y210:List ByteArray)).bind fun y213=>((some (x0.drop (x5:Int).toNat:List ByteArray)).bind fun y216=>(if y213.length+y216.length<8796093022208 then (some (y213 ++ y216)) else (none)))) else (none)))) else (none))))) else (none)) else (if 0≤x5 then (if x5≤(x0.length:Int) then ((spec_l2Own.f (x0.take (x5:Int).toNat)).bind fun t229=>((some (([x1]:List ByteArray):List ByteArray)).bind fun y232=>(if t229.length+y232.length<8796093022208 then ((some (t229 ++ y232:List ByteArray)).bind fun y235=>((some (x0.drop (x5:Int).toNat:List ByteArray)).bind fun y238=>(if y235.length+y238.length<8796093022208 then (some (y235 ++ y238)) else (none)))) else (none)))) else (none)) else (none))
def spec_l2Put.f (k:Nat) (l0:List ByteArray) (a1:ByteArray):Option (List ByteArray):=spec_l2Put.l0 k l0 a1 0
def spec_l2Put.T6:Bool × List (List Nat × List Nat):=(true,[([],[]),([],[]),([0,1],[0,1]),([2],[2]),([],[]),([4],[4]),([3,5,3],[3,5]),([],[]),([],[]),([7,8],[7,8]),([6,9,6],[6,9]),([10,10,0,1,2,3,4,5,6,7,8,9,10],[10])])
def spec_l2Put.B6:List Nat:=[0,0,3,7,0,16,63,0,0,384,1023,2047]
theorem spec_l2Put.tab6:rtab .any (opsOf Tryz.f67 6)=spec_l2Put.T6:=by kernel_rfl
theorem spec_l2Put.bits6:waitsOk spec_l2Put.T6.2 spec_l2Put.B6=true:=by kernel_rfl
set_option maxHeartbeats 8000000 in
set_option maxRecDepth 100000 in
theorem spec_l2Put.calls (k:Nat) (P0_:Nat→Prop) (A0:Option Addr) (c0:Nat) (l0:List ByteArray) (a1:ByteArray) (r:List ByteArray) (w:World) (hs0:Kd.V Kd.string 9 w w.heap.size (fun k_=>P0_ k_) (.slice A0 l0.length c0) l0) (h:spec_l2Put.f k l0 a1=some r) :
  Calls Tryz.prog 67 #[.slice A0 l0.length c0,.string a1] w fun e w'=>∃ v0_:Value,e=.returned (v0_)∧Kd.V Kd.string 9 w' w.heap.size (fun k_=>(P0_ k_∨w.heap.size≤k_)) v0_ r∧Below w.heap.size w w':=by
 have HO0:=Zz.mk (show Kd.V Kd.string 9 w w.heap.size (fun k_=>(P0_ k_∨w.heap.size≤k_)) (.slice A0 l0.length c0) l0 from Kd.V_mono hs0 (fun k_ hk=>.inl hk))
 have HB:=Zz.mk (Below.refl w.heap.size w)
 have H:(spec_l2Put.l0 k l0 a1 0)=some r:=h
 clear h
 have H':=Zz.mk H
 clear H
 go_enter Tryz.func67,Tryz.ntmps67
 go_wp2
 go_loopg [5] k (fun kq v5 w'=>∃ (x5_1:Int),v5=.int .i64 x5_1∧Zz (spec_l2Put.l0 kq l0 a1 x5_1=some r)∧Zz (kq≤k)∧Zz (Kd.V Kd.string 9 w' w.heap.size (fun k_=>(P0_ k_∨w.heap.size≤k_)) (.slice A0 l0.length c0) l0)∧Zz (Below w.heap.size w w'))
 case atStart=>exact ⟨(0),(by first|rfl|(simp;done)|(simp [*];done)),H',⟨Nat.le_refl _⟩,⟨by (with_reducible repeat (first|apply Kd.V_alloc|apply Kd.V_drewN|apply Kd.V_drew));exact HO0.out⟩,⟨by repeat (first|(with_reducible first|exact HB.out|apply qA|apply qN|apply q1_)|exact HB.out)⟩⟩
 case round =>
  clear H'
  try clear p2
  obtain ⟨x5_1,rfl,HA,HK1,HO_0,HB⟩:=hrel
  cases gk with
  | zero=>exact absurd HA.out (by simp [spec_l2Put.l0])
  | succ k1 =>
   have H:=HA.out
   clear HA
   simp only [spec_l2Put.l0] at H
   by_cases c3:x5_1<(l0.length:Int)
   ·rw [if_pos c3] at H
    have c3b0:decide (x5_1<(l0.length:Int))=true:=decide_eq_true c3
    clear c3
    by_cases c4:0≤x5_1
    ·rw [if_pos c4] at H
     have c4b0:decide (0≤x5_1)=true:=decide_eq_true c4
     clear c4
     replace H:=Option.bind_eq_some_iff.mp H
     obtain ⟨t200,A50,H⟩:=H
     replace H:(if t200=true then (spec_l2Put.l0 k1 l0 a1 (wrap64 (x5_1+1))) else (if (rdOf ByteArray.empty l0 x5_1).toList=a1.toList then (some l0) else (if x5_1≤(l0.length:Int) then ((spec_l2Own.f (l0.take (x5_1:Int).toNat)).bind fun t207=>((some (([a1]:List ByteArray):List ByteArray)).bind fun y210=>(if t207.length+y210.length<8796093022208 then ((some (t207 ++ y210:List ByteArray)).bind fun y213=>((some (l0.drop (x5_1:Int).toNat:List ByteArray)).bind fun y216=>(if y213.length+y216.length<8796093022208 then (some (y213 ++ y216)) else (none)))) else (none)))) else (none))))=some r:=H
     have A5:=Zz.mk A50
     clear A50
     by_cases c6:t200=true
     ·subst c6
      have H1:(spec_l2Put.l0 k1 l0 a1 (wrap64 (x5_1+1)))=some r:=by rw [if_pos rfl] at H;exact H
      clear H
      have H:=H1
      clear H1
      have H':=Zz.mk H
      clear H
      have p199:0≤(x5_1:Int):=of_decide_eq_true (by first|(with_reducible assumption)|assumption)
      have q199:x5_1<(l0.length:Int):=of_decide_eq_true (by first|(with_reducible assumption)|assumption)
      obtain ⟨ad199,e199,hx199_0⟩:=Kd.at_string (Kd.V_reads' HO_0.out).2.2 x5_1 p199 q199
      cases e199
      replace p199:=eq_true p199
      replace q199:=eq_true q199
      go_wp2_with (first|(go_at_call 94;(with_reducible refine (spec_l2Before.calls k1 (rdOf ByteArray.empty l0 x5_1) a1 true _ A5.out).mono ?_);rintro e w' ⟨rfl,⟨nd,rfl⟩⟩))
      go_roundg k1
      case measure=>have:=HK1.out;omega
      case rel=>exact ⟨(wrap64 (x5_1+1)),(by first|rfl|(simp;done)|(simp [*];done)),H',⟨by have:=HK1.out;omega⟩,⟨by (with_reducible repeat (first|apply Kd.V_alloc|apply Kd.V_drewN|apply Kd.V_drew));exact HO_0.out⟩,⟨by repeat (first|(with_reducible first|exact HB.out|apply qA|apply qN|apply q1_)|exact HB.out)⟩⟩
     ·replace c6:=Bool.eq_false_iff.mpr c6
      subst c6
      have H1:(if (rdOf ByteArray.empty l0 x5_1).toList=a1.toList then (some l0) else (if x5_1≤(l0.length:Int) then ((spec_l2Own.f (l0.take (x5_1:Int).toNat)).bind fun t207=>((some (([a1]:List ByteArray):List ByteArray)).bind fun y210=>(if t207.length+y210.length<8796093022208 then ((some (t207 ++ y210:List ByteArray)).bind fun y213=>((some (l0.drop (x5_1:Int).toNat:List ByteArray)).bind fun y216=>(if y213.length+y216.length<8796093022208 then (some (y213 ++ y216)) else (none)))) else (none)))) else (none)))=some r:=by rw [if_neg (show ¬ (false=true) by decide)] at H;exact H
      clear H
      have H:=H1
      clear H1
      by_cases c7:(rdOf ByteArray.empty l0 x5_1).toList=a1.toList
      ·rw [if_pos c7] at H
       have c7b0:((rdOf ByteArray.empty l0 x5_1).toList == a1.toList)=true:=beq_iff_eq.mpr c7
       have c7b1:((rdOf ByteArray.empty l0 x5_1).toList != a1.toList)=false:=bne_eq_false_iff_eq.mpr c7
       clear c7
       obtain rfl:=Option.some.inj H
       have p199:0≤(x5_1:Int):=of_decide_eq_true (by first|(with_reducible assumption)|assumption)
       have q199:x5_1<(l0.length:Int):=of_decide_eq_true (by first|(with_reducible assumption)|assumption)
       obtain ⟨ad199,e199,hx199_0⟩:=Kd.at_string (Kd.V_reads' HO_0.out).2.2 x5_1 p199 q199
       cases e199
       replace p199:=eq_true p199
       replace q199:=eq_true q199
       go_wp2_with (first|(go_at_call 94;(with_reducible refine (spec_l2Before.calls k1 (rdOf ByteArray.empty l0 x5_1) a1 false _ A5.out).mono ?_);rintro e w' ⟨rfl,⟨nd,rfl⟩⟩;have p201:0≤(x5_1:Int):=of_decide_eq_true (by first|(with_reducible assumption)|assumption);have q201:x5_1<(l0.length:Int):=of_decide_eq_true (by first|(with_reducible assumption)|assumption);obtain ⟨ad201,e201,hx201_0⟩:=Kd.at_string (Kd.V_reads' HO_0.out).2.2 x5_1 p201 q201;obtain rfl:ad199=ad201:=(by injection e201);replace p201:=eq_true p201;replace q201:=eq_true q201))
       go_ret
       exact ⟨_,by first|rfl|(simp [errW_none,errW_some] <;> rfl)|(simp [*,errW_none,errW_some] <;> rfl),by (with_reducible repeat (first|apply Kd.V_alloc|apply Kd.V_drewN|apply Kd.V_drew));exact HO_0.out,by repeat (first|(with_reducible first|exact HB.out|apply qA|apply qN|apply q1_)|exact HB.out)⟩
      ·rw [if_neg c7] at H
       have c7b0:((rdOf ByteArray.empty l0 x5_1).toList == a1.toList)=false:=beq_eq_false_iff_ne.mpr c7
       have c7b1:((rdOf ByteArray.empty l0 x5_1).toList != a1.toList)=true:=bne_iff_ne.mpr c7
       have c8b0:=eq_true (of_decide_eq_true (by first|(with_reducible assumption)|assumption):0≤x5_1)
       by_cases c9:x5_1≤(l0.length:Int)
       ·rw [if_pos c9] at H
        have c9b0:=eq_true c9
        have c9b1:decide (x5_1≤(l0.length:Int))=true:=decide_eq_true c9
        clear c9
        obtain ⟨y202,hy202⟩:∃ y_:List ByteArray,y_=(l0.take (x5_1:Int).toNat):=⟨_,rfl⟩
        replace H:((spec_l2Own.f y202).bind fun t207=>((some (([a1]:List ByteArray):List ByteArray)).bind fun y210=>(if t207.length+y210.length<8796093022208 then ((some (t207 ++ y210:List ByteArray)).bind fun y213=>((some (l0.drop (x5_1:Int).toNat:List ByteArray)).bind fun y216=>(if y213.length+y216.length<8796093022208 then (some (y213 ++ y216)) else (none)))) else (none))))=some r:=by first|(rw [hy202];with_reducible exact H)|(have H2_:=(Option.bind_some _ _).symm.trans H;rw [hy202];with_reducible exact H2_)|(have H2_:=(Option.bind_some _ _).symm.trans H;with_reducible exact H2_)|with_reducible exact H|(rw [hy202];exact H)|exact H
        have Ny202:=Zz.mk hy202
        clear hy202
        replace H:=Option.bind_eq_some_iff.mp H
        obtain ⟨t207,A100,H⟩:=H
        replace H:((some (([a1]:List ByteArray):List ByteArray)).bind fun y210=>(if t207.length+y210.length<8796093022208 then ((some (t207 ++ y210:List ByteArray)).bind fun y213=>((some (l0.drop (x5_1:Int).toNat:List ByteArray)).bind fun y216=>(if y213.length+y216.length<8796093022208 then (some (y213 ++ y216)) else (none)))) else (none)))=some r:=H
        have A10:=Zz.mk A100
        clear A100
        obtain ⟨y210,hy210⟩:∃ y_:List ByteArray,y_=(([a1]:List ByteArray)):=⟨_,rfl⟩
        replace H:(if t207.length+y210.length<8796093022208 then ((some (t207 ++ y210:List ByteArray)).bind fun y213=>((some (l0.drop (x5_1:Int).toNat:List ByteArray)).bind fun y216=>(if y213.length+y216.length<8796093022208 then (some (y213 ++ y216)) else (none)))) else (none))=some r:=by first|(rw [hy210];with_reducible exact H)|(have H2_:=(Option.bind_some _ _).symm.trans H;rw [hy210];with_reducible exact H2_)|(have H2_:=(Option.bind_some _ _).symm.trans H;with_reducible exact H2_)|with_reducible exact H|(rw [hy210];exact H)|exact H
        have Ny210:=Zz.mk hy210
        clear hy210
        by_cases c11:t207.length+y210.length<8796093022208
        ·rw [if_pos c11] at H
         have LMc11:=Zz.mk c11
         clear c11
         obtain ⟨y213,hy213⟩:∃ y_:List ByteArray,y_=(t207 ++ y210):=⟨_,rfl⟩
         replace H:((some (l0.drop (x5_1:Int).toNat:List ByteArray)).bind fun y216=>(if y213.length+y216.length<8796093022208 then (some (y213 ++ y216)) else (none)))=some r:=by first|(rw [hy213];with_reducible exact H)|(have H2_:=(Option.bind_some _ _).symm.trans H;rw [hy213];with_reducible exact H2_)|(have H2_:=(Option.bind_some _ _).symm.trans H;with_reducible exact H2_)|with_reducible exact H|(rw [hy213];exact H)|exact H
         have Ny213:=Zz.mk hy213
         clear hy213
         have c12b0:=eq_true (of_decide_eq_true (by first|(with_reducible assumption)|assumption):0≤x5_1)
         have c13b0:=eq_true (of_decide_eq_true (by first|(with_reducible assumption)|assumption):x5_1≤(l0.length:Int))
         obtain ⟨y216,hy216⟩:∃ y_:List ByteArray,y_=(l0.drop (x5_1:Int).toNat):=⟨_,rfl⟩
         replace H:(if y213.length+y216.length<8796093022208 then (some (y213 ++ y216)) else (none))=some r:=by first|(rw [hy216];with_reducible exact H)|(have H2_:=(Option.bind_some _ _).symm.trans H;rw [hy216];with_reducible exact H2_)|(have H2_:=(Option.bind_some _ _).symm.trans H;with_reducible exact H2_)|with_reducible exact H|(rw [hy216];exact H)|exact H
         have Ny216:=Zz.mk hy216
         clear hy216
         by_cases c14:y213.length+y216.length<8796093022208
         ·rw [if_pos c14] at H
          have LMc14:=Zz.mk c14
          clear c14
          obtain ⟨y221,hy221⟩:∃ y_:List ByteArray,y_=(y213 ++ y216):=⟨_,rfl⟩
          replace H:(some y221)=some r:=by first|(rw [hy221];with_reducible exact H)|(have H2_:=(Option.bind_some _ _).symm.trans H;rw [hy221];with_reducible exact H2_)|(have H2_:=(Option.bind_some _ _).symm.trans H;with_reducible exact H2_)|with_reducible exact H|(rw [hy221];exact H)|exact H
          have Ny221:=Zz.mk hy221
          clear hy221
          obtain rfl:=Option.some.inj H
          have p199:0≤(x5_1:Int):=of_decide_eq_true (by first|(with_reducible assumption)|assumption)
          have q199:x5_1<(l0.length:Int):=of_decide_eq_true (by first|(with_reducible assumption)|assumption)
          obtain ⟨ad199,e199,hx199_0⟩:=Kd.at_string (Kd.V_reads' HO_0.out).2.2 x5_1 p199 q199
          cases e199
          replace p199:=eq_true p199
          replace q199:=eq_true q199
          try go_wp2_with (first|(go_at_call 94;(with_reducible refine (spec_l2Before.calls k1 (rdOf ByteArray.empty l0 x5_1) a1 false _ A5.out).mono ?_);rintro e w' ⟨rfl,⟨nd,rfl⟩⟩;have p201:0≤(x5_1:Int):=of_decide_eq_true (by first|(with_reducible assumption)|assumption);have q201:x5_1<(l0.length:Int):=of_decide_eq_true (by first|(with_reducible assumption)|assumption);obtain ⟨ad201,e201,hx201_0⟩:=Kd.at_string (Kd.V_reads' HO_0.out).2.2 x5_1 p201 q201;obtain rfl:ad199=ad201:=(by injection e201);replace p201:=eq_true p201;replace q201:=eq_true q201))
          (try (rw [drewN_self wr];generalize hq_:World.drewN wr _=wr;have n0_:Zz (Kd.V Kd.string 9 wr w.heap.size (fun k_=>(P0_ k_∨w.heap.size≤k_)) (.slice (some ad199) l0.length c0) l0):=⟨by rw [← hq_];exact (by (with_reducible repeat (first|apply Kd.V_alloc|apply Kd.V_drewN|apply Kd.V_drew));exact HO_0.out)⟩;have n1_:Zz (Below w.heap.size w wr):=⟨by rw [← hq_];exact (by repeat (first|(with_reducible first|exact HB.out|apply qA|apply qN|apply q1_)|exact HB.out))⟩;clear HO_0 HB hq_;have HO_0:=n0_;have HB:=n1_;clear n0_ n1_))
          have n0_:=Zz.mk (Kd.V_drew HO_0.out)
          have n1_:=Zz.mk (q1_ HB.out)
          revert n0_ n1_
          clear HO_0 HB
          intro HO_0 HB
          have q16:(x5_1:Int)≤((l0.length:Int):Int):=of_decide_eq_true (by first|(with_reducible assumption)|assumption)
          obtain ⟨i016,hi016,_,hsz16,_⟩:=info_parts info9
          have hroom16:l0.length≤c0:=(Kd.V_reads' HO_0.out).2.1
          have hC16:Kd.F Kd.string _ _ (some ad199) l0.length l0:=(Kd.V_at (base:=w.heap.size) HO_0.out).2.2
          have hcut16:=cut_to (P:=Tryz.prog) 43 9 .i64 Tryz.underlying43 hi016 (some ad199) l0.length c0 x5_1 (of_decide_eq_true (by first|(with_reducible assumption)|assumption)) q16 hroom16
          have hr16:=Kd.F_take (m:=(x5_1:Int).toNat) hC16 (by omega)
          have hy16:y202.length=(x5_1:Int).toNat:=(by rw [Ny202.out,List.length_take];omega)
          rw [← Ny202.out] at hr16
          rw [← hy16] at hcut16
          have HO206:=Zz.mk (show Kd.V Kd.string 9 _ w.heap.size _ (.slice (some ad199) y202.length c0) y202 from Kd.V_mk (by omega) hr16)
          have HC206:=Zz.mk (show y202.length≤c0 from by omega)
          clear hr16 hC16 hroom16 hi016 hsz16
          have KY16:=Zz.mk hy16
          clear hy16
          replace q16:=eq_true q16
          have q17:(x5_1:Int)≤((l0.length:Int):Int):=of_decide_eq_true (by first|(with_reducible assumption)|assumption)
          obtain ⟨i017,hi017,_,hsz17,_⟩:=info_parts info9
          have hroom17:l0.length≤c0:=(Kd.V_reads' HO_0.out).2.1
          have hC17:Kd.F Kd.string _ _ (some ad199) l0.length l0:=(Kd.V_at (base:=w.heap.size) HO_0.out).2.2
          have q017:(0:Int)≤(x5_1:Int):=of_decide_eq_true (by first|(with_reducible assumption)|assumption)
          have hcut17:=cut_from (P:=Tryz.prog) 43 9 .i64 Tryz.underlying43 hi017 1 hsz17 (some ad199) l0.length c0 x5_1 q017 q17
          have hr17:=Kd.F_cut (m:=(x5_1:Int).toNat) (c:=c0) hC17 (by omega) hroom17
          obtain ⟨A17,hA17⟩:∃ A1,A1=(if c0=(x5_1:Int).toNat then (some ad199) else ((some ad199):Option Addr).map (·.add ((x5_1:Int).toNat * 1))):=⟨_,rfl⟩
          obtain ⟨c17,hc17⟩:∃ c1,c1=c0 - (x5_1:Int).toNat:=⟨_,rfl⟩
          have hy17:y216.length=l0.length - (x5_1:Int).toNat:=(by rw [Ny216.out,List.length_drop] <;> omega)
          rw [show (l0).drop (x5_1:Int).toNat=y216 from Ny216.out.symm] at hr17
          replace hr17:Kd.F Kd.string _ _ A17 y216.length y216:=(by rw [hA17];exact hr17)
          rw [← hy17,← hA17,← hc17] at hcut17
          have HO220:=Zz.mk (show Kd.V Kd.string 9 _ w.heap.size _ (.slice A17 y216.length c17) y216 from Kd.V_mk (by rw [hy17,hc17];exact Nat.sub_le_sub_right hroom17 _) hr17)
          have HC220:=Zz.mk (show y216.length≤c17 from by rw [hy17,hc17];exact Nat.sub_le_sub_right hroom17 _)
          clear hr17 hC17 hroom17 hi017 hsz17 hc17
          have KY17:=Zz.mk hy17
          have KA17:=Zz.mk hA17
          clear hy17 hA17
          replace q17:=eq_true q17
          refine start_ (n:=12) (S:=fun w'=>True) (ds:=[]) #[false,false,false,false,false,false,false,false,false,false,false,false] (by kernel_rfl) rfl rfl trivial (fun hHeld=>?_);refine with_tabW spec_l2Put.tab6 spec_l2Put.bits6 (fun HT_ HW_=>?_)
          generalize wr.drew=w15 at HO_0 HB HO206 HO220 hHeld ⊢
          refine pure_ (i:=0) (N:=some 33) (v:=?_) (a':=?_) #[true,false,false,false,false,false,false,false,false,false,false,false] rfl rfl (any_of HT_.out (by kernel_rfl)) (fun _ _ _ h=>h) (Or.inl ⟨by rfl,?_⟩) ?_ ?_
          rotate_left
          ·intro w'
           go_simp
           with_reducible rfl
          rotate_left
          ·simp only [Act.put,List.setIfInBounds_toArray,List.set_cons_zero,List.set_cons_succ,i64_w,i32_w]
           rfl
          refine pure_ (i:=1) (N:=some 34) (v:=?_) (a':=?_) #[true,true,false,false,false,false,false,false,false,false,false,false] rfl rfl (any_of HT_.out (by kernel_rfl)) (fun _ _ _ h=>h) (Or.inl ⟨by rfl,?_⟩) ?_ ?_
          rotate_left
          ·intro w'
           go_simp
           with_reducible rfl
          rotate_left
          ·simp only [Act.put,List.setIfInBounds_toArray,List.set_cons_zero,List.set_cons_succ,i64_w,i32_w]
           rfl
          refine pure_ (i:=2) (N:=some 35) (v:=?_) (a':=?_) #[true,true,true,false,false,false,false,false,false,false,false,false] rfl rfl (any_of HT_.out (by kernel_rfl)) (fun _ _ _ h=>h) (Or.inl ⟨by rfl,?_⟩) ?_ ?_
          rotate_left
          ·intro w'
           go_simp
           with_reducible rfl
          rotate_left
          ·simp only [Act.put,List.setIfInBounds_toArray,List.set_cons_zero,List.set_cons_succ,i64_w,i32_w]
           rfl
          refine pure_ (i:=4) (N:=some 37) (v:=?_) (a':=?_) #[true,true,true,false,true,false,false,false,false,false,false,false] rfl rfl (any_of HT_.out (by kernel_rfl)) (fun _ _ _ h=>h) (Or.inl ⟨by rfl,?_⟩) ?_ ?_
          rotate_left
          ·intro w'
           go_simp
           with_reducible rfl
          rotate_left
          ·simp only [Act.put,List.setIfInBounds_toArray,List.set_cons_zero,List.set_cons_succ,i64_w,i32_w]
           rfl
          refine pure_ (i:=7) (N:=some 40) (v:=?_) (a':=?_) #[true,true,true,false,true,false,false,true,false,false,false,false] rfl rfl (any_of HT_.out (by kernel_rfl)) (fun _ _ _ h=>h) (Or.inl ⟨by rfl,?_⟩) ?_ ?_
          rotate_left
          ·intro w'
           go_simp
           with_reducible rfl
          rotate_left
          ·simp only [Act.put,List.setIfInBounds_toArray,List.set_cons_zero,List.set_cons_succ,i64_w,i32_w]
           rfl
          refine pure_ (i:=8) (N:=some 41) (v:=?_) (a':=?_) #[true,true,true,false,true,false,false,true,true,false,false,false] rfl rfl (any_of HT_.out (by kernel_rfl)) (fun _ _ _ h=>h) (Or.inl ⟨by rfl,?_⟩) ?_ ?_
          rotate_left
          ·intro w'
           go_simp
           with_reducible rfl
          rotate_left
          ·simp only [Act.put,List.setIfInBounds_toArray,List.set_cons_zero,List.set_cons_succ,i64_w,i32_w]
           rfl
          refine pure_ (i:=9) (N:=some 42) (v:=?_) (a':=?_) #[true,true,true,false,true,false,false,true,true,true,false,false] rfl rfl (any_of HT_.out (by kernel_rfl)) (fun _ _ _ h=>h) (Or.inl ⟨by rfl,?_⟩) ?_ ?_
          rotate_left
          ·intro w'
           go_simp
           with_reducible rfl
          rotate_left
          ·simp only [Act.put,List.setIfInBounds_toArray,List.set_cons_zero,List.set_cons_succ,i64_w,i32_w]
           rfl
          refine join_ (σ:=Value × Value) 3 #[true,true,true,true,true,true,false,true,true,true,false,false] (fun s_=>[(36,s_.1),(38,s_.2)]) (fun s_ w'=>(Kd.V Kd.string 9 w' w.heap.size (fun k_=>(P0_ k_∨w.heap.size≤k_)∧some k_ ≠ (s_.1:Value).ownBlock∧some k_ ≠ (s_.2:Value).ownBlock) (.slice (some ad199) y202.length c0) y202)∧(Kd.R Kd.string 9 w' w.heap.size (fun k_=>(w.heap.size≤k_)∧some k_ ≠ (s_.2:Value).ownBlock) s_.1 t207)∧(Kd.R Kd.string 9 w' w.heap.size (fun k_=>(w.heap.size≤k_)∧some k_ ≠ (s_.1:Value).ownBlock) s_.2 y210)∧(Kd.V Kd.string 9 w' w.heap.size (fun k_=>(P0_ k_∨w.heap.size≤k_)∧some k_ ≠ (s_.1:Value).ownBlock∧some k_ ≠ (s_.2:Value).ownBlock) (.slice A17 y216.length c17) y216)∧(Kd.V Kd.string 9 w' w.heap.size (fun k_=>(P0_ k_∨w.heap.size≤k_)∧some k_ ≠ (s_.1:Value).ownBlock∧some k_ ≠ (s_.2:Value).ownBlock) (.slice (some ad199) l0.length c0) l0)∧(Below w.heap.size w w')) ?_ ?_
          rotate_left
          ·intro hCont
           refine two_ (i:=3) (j:=5) (Ni:=some 36) (Nj:=some 38) #[true,true,true,true,true,false,false,true,true,true,false,false] #[true,true,true,false,true,true,false,true,true,true,false,false] rfl rfl rfl rfl (two_of HT_.out (by kernel_rfl)) (by decide) (by decide) (fun K hK=>?_) (fun K hK=>?_)
           ·skip
            refine goes_ Tryz.func95 (by kernel_rfl) rfl #[.slice (some ad199) y202.length c0] (by rfl) rfl rfl (by (try simp only [List.map_toArray,List.map_cons,List.map_nil]);first|done|rfl|(simp only [List.length_drop,List.length_take];rfl)) ?_
            with_reducible refine (spec_l2Own.calls _ _ y202 t207 _ ?side1 ?side2 A10.out).mono ?_
            (case side1=>exact (Kd.V_reads' HO206.out).2.2)
            (case side2=>exact (Kd.V_reads' HO206.out).2.1)
            rintro e w18 ⟨v208,rfl,ho0,hb⟩
            refine ⟨_,rfl,?_⟩
            have n0_:=Zz.mk (Kd.V_elder' (by (with_reducible repeat (first|apply Kd.V_alloc|apply Kd.V_drewN|apply Kd.V_drew));exact HO_0.out) (Kd.R_base ho0) hb)
            have n1_:=Zz.mk (Kd.V_elder' (by (with_reducible repeat (first|apply Kd.V_alloc|apply Kd.V_drewN|apply Kd.V_drew));exact HO206.out) (Kd.R_base ho0) hb)
            have n2_:=Zz.mk (Kd.V_elder' (by (with_reducible repeat (first|apply Kd.V_alloc|apply Kd.V_drewN|apply Kd.V_drew));exact HO220.out) (Kd.R_base ho0) hb)
            have n3_:=Zz.mk (Kd.R_lower (Kd.R_newM (M:=fun k_=>(w.heap.size≤k_)) ho0 (qZ HB.out) (fun k_ h_=>h_)) (qZ HB.out))
            have n4_:=Zz.mk (qP HB.out hb)
            revert n0_ n1_ n2_ n3_ n4_
            clear HO_0 HO206 HO220 HB
            intro HO_0 HO206 HO220 HO209 HB
            (try clear hb)
            (try clear hb2)
            (try clear hk)
            (try clear hi)
            (try clear ho0)
            refine hK.out _ _ trivial (fun hHeld=>?_)
            clear hK K
            refine norm_ (a':=?_) ?_ ?_
            rotate_left
            ·show Act.put _ (some 36) _=_
             simp only [Act.put,List.setIfInBounds_toArray,List.set_cons_zero,List.set_cons_succ,i64_w,i32_w]
             rfl
            refine one_ (i:=5) (N:=some 38) #[true,true,true,true,true,true,false,true,true,true,false,false] rfl rfl (one_of HT_.out (by kernel_rfl)) (by decide) (fun K hK=>?_)
            refine Kd.R_lit_step Kd.string _ 9 ?hg (N:=38) ?hd (xs:=([a1]:List ByteArray)) (inner:=[.string a1]) (ok:=fun _=>True) (okp:=fun _=>True) ?hr ?hp (fun _ hk=>hk) trivial (Below.refl _ _) (Nat.le_refl _) (by simp) ?_;(case hd=>rfl);(case hg=>rfl);(case hr=>first|(go_simp;done)|(go_simp;rfl));(case hp=>exact (Reps.one (show Kd.M Kd.string _ _ _ a1 [.string a1] from rfl) (Reps.none _ _)))
            intro v211 w19 ho20 hb hg_ hnew_
            clear hg_ hnew_
            (first|rw [← Ny210.out] at ho20|(simp only [Int.reduceToNat] at ho20;rw [← Ny210.out] at ho20))
            have n0_:=Zz.mk (Kd.V_elder' (by (with_reducible repeat (first|apply Kd.V_alloc|apply Kd.V_drewN|apply Kd.V_drew));exact HO_0.out) (Kd.R_base ho20) hb)
            have n1_:=Zz.mk (Kd.V_elder' (by (with_reducible repeat (first|apply Kd.V_alloc|apply Kd.V_drewN|apply Kd.V_drew));exact HO206.out) (Kd.R_base ho20) hb)
            have n2_:=Zz.mk (Kd.V_elder' (by (with_reducible repeat (first|apply Kd.V_alloc|apply Kd.V_drewN|apply Kd.V_drew));exact HO220.out) (Kd.R_base ho20) hb)
            have n3_:=Zz.mk (Kd.R_elder' HO209.out (Kd.R_base ho20) hb)
            have n4_:=Zz.mk (Kd.R_lower (Kd.R_new' (Kd.R_newM (M:=fun k_=>(w.heap.size≤k_)) ho20 (qZ HB.out) (fun k_ h_=>h_)) (Kd.R_lt HO209.out)) (qZ HB.out))
            have n5_:=Zz.mk (qP HB.out hb)
            revert n0_ n1_ n2_ n3_ n4_ n5_
            clear HO_0 HO206 HO220 HO209 HB
            intro HO_0 HO206 HO220 HO209 HO212 HB
            clear hb ho20
            refine hK.out _ _ trivial (fun hHeld=>?_)
            clear hK K
            refine norm_ (a':=?_) ?_ ?_
            rotate_left
            ·show Act.put _ (some 38) _=_
             simp only [Act.put,List.setIfInBounds_toArray,List.set_cons_zero,List.set_cons_succ,i64_w,i32_w]
             rfl
            exact norm_ (by simp only [putAll,Act.put,List.setIfInBounds_toArray,List.set_cons_zero,List.set_cons_succ]) (hCont (v208,v211) _ ⟨(by (with_reducible repeat (first|apply Kd.V_alloc|apply Kd.V_drewN|apply Kd.V_drew));exact Kd.V_mono HO206.out (fun _ hk=>⟨hk.1.1,⟨hk.1.2,hk.2⟩⟩)),(Kd.R_mono HO209.out (fun _ hk=>⟨hk.1.1,hk.2⟩)),(Kd.R_mono HO212.out (fun _ hk=>⟨hk.1.1,hk.2⟩)),(by (with_reducible repeat (first|apply Kd.V_alloc|apply Kd.V_drewN|apply Kd.V_drew));exact Kd.V_mono HO220.out (fun _ hk=>⟨hk.1.1,⟨hk.1.2,hk.2⟩⟩)),(by (with_reducible repeat (first|apply Kd.V_alloc|apply Kd.V_drewN|apply Kd.V_drew));exact Kd.V_mono HO_0.out (fun _ hk=>⟨hk.1.1,⟨hk.1.2,hk.2⟩⟩)),HB.out⟩)
           ·skip
            refine Kd.R_lit_step Kd.string _ 9 ?hg (N:=38) ?hd (xs:=([a1]:List ByteArray)) (inner:=[.string a1]) (ok:=fun _=>True) (okp:=fun _=>True) ?hr ?hp (fun _ hk=>hk) trivial (Below.refl _ _) (Nat.le_refl _) (by simp) ?_;(case hd=>rfl);(case hg=>rfl);(case hr=>first|(go_simp;done)|(go_simp;rfl));(case hp=>exact (Reps.one (show Kd.M Kd.string _ _ _ a1 [.string a1] from rfl) (Reps.none _ _)))
            intro v211 w18 ho19 hb hg_ hnew_
            clear hg_ hnew_
            (first|rw [← Ny210.out] at ho19|(simp only [Int.reduceToNat] at ho19;rw [← Ny210.out] at ho19))
            have n0_:=Zz.mk (Kd.V_elder' (by (with_reducible repeat (first|apply Kd.V_alloc|apply Kd.V_drewN|apply Kd.V_drew));exact HO_0.out) (Kd.R_base ho19) hb)
            have n1_:=Zz.mk (Kd.V_elder' (by (with_reducible repeat (first|apply Kd.V_alloc|apply Kd.V_drewN|apply Kd.V_drew));exact HO206.out) (Kd.R_base ho19) hb)
            have n2_:=Zz.mk (Kd.V_elder' (by (with_reducible repeat (first|apply Kd.V_alloc|apply Kd.V_drewN|apply Kd.V_drew));exact HO220.out) (Kd.R_base ho19) hb)
            have n3_:=Zz.mk (Kd.R_lower (Kd.R_newM (M:=fun k_=>(w.heap.size≤k_)) ho19 (qZ HB.out) (fun k_ h_=>h_)) (qZ HB.out))
            have n4_:=Zz.mk (qP HB.out hb)
            revert n0_ n1_ n2_ n3_ n4_
            clear HO_0 HO206 HO220 HB
            intro HO_0 HO206 HO220 HO212 HB
            clear hb ho19
            refine hK.out _ _ trivial (fun hHeld=>?_)
            clear hK K
            refine norm_ (a':=?_) ?_ ?_
            rotate_left
            ·show Act.put _ (some 38) _=_
             simp only [Act.put,List.setIfInBounds_toArray,List.set_cons_zero,List.set_cons_succ,i64_w,i32_w]
             rfl
            refine one_ (i:=3) (N:=some 36) #[true,true,true,true,true,true,false,true,true,true,false,false] rfl rfl (one_of HT_.out (by kernel_rfl)) (by decide) (fun K hK=>?_)
            refine goes_ Tryz.func95 (by kernel_rfl) rfl #[.slice (some ad199) y202.length c0] (by rfl) rfl rfl (by (try simp only [List.map_toArray,List.map_cons,List.map_nil]);first|done|rfl|(simp only [List.length_drop,List.length_take];rfl)) ?_
            with_reducible refine (spec_l2Own.calls _ _ y202 t207 _ ?side1 ?side2 A10.out).mono ?_
            (case side1=>exact (Kd.V_reads' HO206.out).2.2)
            (case side2=>exact (Kd.V_reads' HO206.out).2.1)
            rintro e w20 ⟨v208,rfl,ho0,hb⟩
            refine ⟨_,rfl,?_⟩
            have n0_:=Zz.mk (Kd.V_elder' (by (with_reducible repeat (first|apply Kd.V_alloc|apply Kd.V_drewN|apply Kd.V_drew));exact HO_0.out) (Kd.R_base ho0) hb)
            have n1_:=Zz.mk (Kd.V_elder' (by (with_reducible repeat (first|apply Kd.V_alloc|apply Kd.V_drewN|apply Kd.V_drew));exact HO206.out) (Kd.R_base ho0) hb)
            have n2_:=Zz.mk (Kd.V_elder' (by (with_reducible repeat (first|apply Kd.V_alloc|apply Kd.V_drewN|apply Kd.V_drew));exact HO220.out) (Kd.R_base ho0) hb)
            have n3_:=Zz.mk (Kd.R_elder' HO212.out (Kd.R_base ho0) hb)
            have n4_:=Zz.mk (Kd.R_lower (Kd.R_new' (Kd.R_newM (M:=fun k_=>(w.heap.size≤k_)) ho0 (qZ HB.out) (fun k_ h_=>h_)) (Kd.R_lt HO212.out)) (qZ HB.out))
            have n5_:=Zz.mk (qP HB.out hb)
            revert n0_ n1_ n2_ n3_ n4_ n5_
            clear HO_0 HO206 HO220 HO212 HB
            intro HO_0 HO206 HO220 HO212 HO209 HB
            (try clear hb)
            (try clear hb2)
            (try clear hk)
            (try clear hi)
            (try clear ho0)
            refine hK.out _ _ trivial (fun hHeld=>?_)
            clear hK K
            refine norm_ (a':=?_) ?_ ?_
            rotate_left
            ·show Act.put _ (some 36) _=_
             simp only [Act.put,List.setIfInBounds_toArray,List.set_cons_zero,List.set_cons_succ,i64_w,i32_w]
             rfl
            exact norm_ (by simp only [putAll,Act.put,List.setIfInBounds_toArray,List.set_cons_zero,List.set_cons_succ]) (hCont (v208,v211) _ ⟨(by (with_reducible repeat (first|apply Kd.V_alloc|apply Kd.V_drewN|apply Kd.V_drew));exact Kd.V_mono HO206.out (fun _ hk=>⟨hk.1.1,⟨hk.2,hk.1.2⟩⟩)),(Kd.R_mono HO209.out (fun _ hk=>⟨hk.1.1,hk.2⟩)),(Kd.R_mono HO212.out (fun _ hk=>⟨hk.1.1,hk.2⟩)),(by (with_reducible repeat (first|apply Kd.V_alloc|apply Kd.V_drewN|apply Kd.V_drew));exact Kd.V_mono HO220.out (fun _ hk=>⟨hk.1.1,⟨hk.2,hk.1.2⟩⟩)),(by (with_reducible repeat (first|apply Kd.V_alloc|apply Kd.V_drewN|apply Kd.V_drew));exact Kd.V_mono HO_0.out (fun _ hk=>⟨hk.1.1,⟨hk.2,hk.1.2⟩⟩)),HB.out⟩)
          rintro ⟨v208,v211⟩ w21 ⟨h0_,h1_,h2_,h3_,h4_,h5_⟩
          have n0_:Zz (Kd.V Kd.string 9 w21 w.heap.size (fun k_=>(P0_ k_∨w.heap.size≤k_)∧some k_ ≠ (v208:Value).ownBlock∧some k_ ≠ (v211:Value).ownBlock) (.slice (some ad199) y202.length c0) y202):=⟨h0_⟩
          have n1_:Zz (Kd.R Kd.string 9 w21 w.heap.size (fun k_=>(w.heap.size≤k_)∧some k_ ≠ (v211:Value).ownBlock) v208 t207):=⟨h1_⟩
          have n2_:Zz (Kd.R Kd.string 9 w21 w.heap.size (fun k_=>(w.heap.size≤k_)∧some k_ ≠ (v208:Value).ownBlock) v211 y210):=⟨h2_⟩
          have n3_:Zz (Kd.V Kd.string 9 w21 w.heap.size (fun k_=>(P0_ k_∨w.heap.size≤k_)∧some k_ ≠ (v208:Value).ownBlock∧some k_ ≠ (v211:Value).ownBlock) (.slice A17 y216.length c17) y216):=⟨h3_⟩
          have n4_:Zz (Kd.V Kd.string 9 w21 w.heap.size (fun k_=>(P0_ k_∨w.heap.size≤k_)∧some k_ ≠ (v208:Value).ownBlock∧some k_ ≠ (v211:Value).ownBlock) (.slice (some ad199) l0.length c0) l0):=⟨h4_⟩
          have n5_:Zz (Below w.heap.size w w21):=⟨h5_⟩
          clear HO_0
          clear HB
          clear h0_ h1_ h2_ h3_ h4_ h5_
          have HO206:=n0_
          have HO209:=n1_
          have HO212:=n2_
          have HO220:=n3_
          have HO_0:=n4_
          have HB:=n5_
          clear n0_ n1_ n2_ n3_ n4_ n5_
          have hHeld:=trivial
          obtain ⟨Ao23,co23,eo23⟩:=Kd.R_slice HO212.out
          (first|subst eo23|(injection eo23 with f1_ f2_ f3_;have f4_:=f1_.symm;have f5_:=f3_.symm;clear f1_ f2_ f3_;subst f4_;subst f5_))
          refine norm_ (a':=?_) ?_ ?_
          rotate_left
          ·simp only [putAll,Act.put,List.setIfInBounds_toArray,List.set_cons_zero,List.set_cons_succ]
           rfl
          refine one_ (i:=6) (N:=some 39) #[true,true,true,true,true,true,true,true,true,true,false,false] rfl rfl (one_of HT_.out (by kernel_rfl)) (by decide) (fun K hK=>?_)
          refine Kd.R_append_rows_step Kd.string (w0:=w) w.heap.size (by rfl) (.tmp 36) (.tmp 38) 43 9 (.string ⟨#[]⟩) 16 rfl Tryz.underlying43 info9 rfl (by decide) (by omega) v208 t207 y210 _ _ _ (fun k_=>(w.heap.size≤k_)∧some k_ ≠ (.slice Ao23 y210.length co23:Value).ownBlock) (fun _=>False) rfl rfl ?aO ?aR (fun _ _ h=>h) (fun _ h=>h.elim) ?aF ?aB ?aS ?aL ?_
          (case aR=>repeat (first|exact (Kd.R_reads' HO212.out).2.2|(with_reducible refine Kd.C_alloc ?_ _)|(with_reducible refine Kd.C_drewN ?_ _)|(with_reducible refine Kd.C_drew ?_)))
          (case aB=>exact (by repeat (first|(with_reducible first|exact HB.out|apply qA|apply qN|apply q1_)|exact HB.out)))
          (case aF=>exact (fun k_ hk=>⟨(Nat.le_trans (qZ (by repeat (first|(with_reducible first|exact HB.out|apply qA|apply qN|apply q1_)|exact HB.out))) hk),Kd.fresh' (Kd.R_lt (by (with_reducible repeat first|apply Kd.R_alloc|apply Kd.R_drewN|apply Kd.R_drew);exact HO212.out)) k_ hk⟩))
          (case aO=>exact (by (with_reducible repeat first|apply Kd.R_alloc|apply Kd.R_drewN|apply Kd.R_drew);exact HO209.out))
          (case aS=>exact (qZ (by repeat (first|(with_reducible first|exact HB.out|apply qA|apply qN|apply q1_)|exact HB.out))))
          (case aL=>have:=LMc11.out;omega)
          intro v214 w22 ho hb hg hat
          rw [← Ny213.out] at ho
          have n0_:=Zz.mk (Kd.V_afterv (ok:=(fun k_=>(P0_ k_∨w.heap.size≤k_)∧some k_ ≠ (.slice Ao23 y210.length co23:Value).ownBlock)) (by (with_reducible repeat (first|apply Kd.V_alloc|apply Kd.V_drewN|apply Kd.V_drew));exact Kd.V_mono HO_0.out (fun _ hk=>⟨⟨hk.1,hk.2.2⟩,hk.2.1⟩)) hg hat)
          have n1_:=Zz.mk (Kd.V_afterv (ok:=(fun k_=>(P0_ k_∨w.heap.size≤k_)∧some k_ ≠ (.slice Ao23 y210.length co23:Value).ownBlock)) (by (with_reducible repeat (first|apply Kd.V_alloc|apply Kd.V_drewN|apply Kd.V_drew));exact Kd.V_mono HO206.out (fun _ hk=>⟨⟨hk.1,hk.2.2⟩,hk.2.1⟩)) hg hat)
          have n2_:=Zz.mk (Kd.V_afterv (ok:=(fun k_=>(P0_ k_∨w.heap.size≤k_)∧some k_ ≠ (.slice Ao23 y210.length co23:Value).ownBlock)) (by (with_reducible repeat (first|apply Kd.V_alloc|apply Kd.V_drewN|apply Kd.V_drew));exact Kd.V_mono HO220.out (fun _ hk=>⟨⟨hk.1,hk.2.2⟩,hk.2.1⟩)) hg hat)
          have n3_:=Zz.mk (Kd.R_after (ok:=(fun k_=>(w.heap.size≤k_))) HO212.out hg hat)
          have n4_:=Zz.mk (hb)
          have n5_:=Zz.mk (ho)
          revert n0_ n1_ n2_ n3_ n4_ n5_
          clear HO_0 HO206 HO220 HO212 HB HO209
          intro HO_0 HO206 HO220 HO212 HB HO215
          clear ho hb hg hat
          refine hK.out _ _ trivial (fun hHeld=>?_)
          clear hK K
          refine norm_ (a':=?_) ?_ ?_
          rotate_left
          ·show Act.put _ (some 39) _=_
           simp only [Act.put,List.setIfInBounds_toArray,List.set_cons_zero,List.set_cons_succ,i64_w,i32_w]
           rfl
          refine one_ (i:=10) (N:=some 43) #[true,true,true,true,true,true,true,true,true,true,true,false] rfl rfl (one_of HT_.out (by kernel_rfl)) (by decide) (fun K hK=>?_)
          refine Kd.R_append_rows_step Kd.string (w0:=w) w.heap.size (by rfl) (.tmp 39) (.tmp 42) 43 9 (.string ⟨#[]⟩) 16 rfl Tryz.underlying43 info9 rfl (by decide) (by omega) v214 y213 y216 _ _ _ (fun k_=>(w.heap.size≤k_)∧some k_ ≠ (.slice Ao23 y210.length co23:Value).ownBlock) (fun _=>False) rfl rfl ?aO ?aR (fun _ _ h=>h) (fun _ h=>h.elim) ?aF ?aB ?aS ?aL ?_
          (case aR=>repeat (first|exact (Kd.V_reads' HO220.out).2.2|(with_reducible refine Kd.C_alloc ?_ _)|(with_reducible refine Kd.C_drewN ?_ _)|(with_reducible refine Kd.C_drew ?_)))
          (case aB=>exact (by repeat (first|(with_reducible first|exact HB.out|apply qA|apply qN|apply q1_)|exact HB.out)))
          (case aF=>exact (fun k_ hk=>⟨(Nat.le_trans (qZ (by repeat (first|(with_reducible first|exact HB.out|apply qA|apply qN|apply q1_)|exact HB.out))) hk),Kd.fresh' (Kd.R_lt (by (with_reducible repeat first|apply Kd.R_alloc|apply Kd.R_drewN|apply Kd.R_drew);exact HO212.out)) k_ hk⟩))
          (case aO=>exact (by (with_reducible repeat first|apply Kd.R_alloc|apply Kd.R_drewN|apply Kd.R_drew);exact HO215.out))
          (case aS=>exact (qZ (by repeat (first|(with_reducible first|exact HB.out|apply qA|apply qN|apply q1_)|exact HB.out))))
          (case aL=>have:=LMc14.out;omega)
          intro v222 w24 ho hb hg hat
          rw [← Ny221.out] at ho
          have n0_:=Zz.mk (Kd.V_afterv (ok:=(fun k_=>(P0_ k_∨w.heap.size≤k_)∧some k_ ≠ (.slice Ao23 y210.length co23:Value).ownBlock)) (by (with_reducible repeat (first|apply Kd.V_alloc|apply Kd.V_drewN|apply Kd.V_drew));exact HO_0.out) hg hat)
          have n1_:=Zz.mk (Kd.V_afterv (ok:=(fun k_=>(P0_ k_∨w.heap.size≤k_)∧some k_ ≠ (.slice Ao23 y210.length co23:Value).ownBlock)) (by (with_reducible repeat (first|apply Kd.V_alloc|apply Kd.V_drewN|apply Kd.V_drew));exact HO206.out) hg hat)
          have n2_:=Zz.mk (Kd.V_afterv (ok:=(fun k_=>(P0_ k_∨w.heap.size≤k_)∧some k_ ≠ (.slice Ao23 y210.length co23:Value).ownBlock)) (by (with_reducible repeat (first|apply Kd.V_alloc|apply Kd.V_drewN|apply Kd.V_drew));exact HO220.out) hg hat)
          have n3_:=Zz.mk (Kd.R_after (ok:=(fun k_=>(w.heap.size≤k_))) HO212.out hg hat)
          have n4_:=Zz.mk (hb)
          have n5_:=Zz.mk (ho)
          revert n0_ n1_ n2_ n3_ n4_ n5_
          clear HO_0 HO206 HO220 HO212 HB HO215
          intro HO_0 HO206 HO220 HO212 HB HO223
          clear ho hb hg hat
          refine hK.out _ _ trivial (fun hHeld=>?_)
          clear hK K
          refine norm_ (a':=?_) ?_ ?_
          rotate_left
          ·show Act.put _ (some 43) _=_
           simp only [Act.put,List.setIfInBounds_toArray,List.set_cons_zero,List.set_cons_succ,i64_w,i32_w]
           rfl
          refine pure_ (i:=11) (N:=some 4) (v:=?_) (a':=?_) #[true,true,true,true,true,true,true,true,true,true,true,true] rfl rfl (any_of HT_.out (by kernel_rfl)) (fun _ _ _ h=>h) (Or.inl ⟨by rfl,?_⟩) ?_ ?_
          rotate_left
          ·intro w'
           go_simp
           with_reducible rfl
          rotate_left
          ·simp only [Act.put,List.setIfInBounds_toArray,List.set_cons_zero,List.set_cons_succ,i64_w,i32_w]
           rfl
          refine done_ (done_of HT_.out (by kernel_rfl)) ?_
          try go_wp2
          go_ret
          exact ⟨_,by first|rfl|(simp [errW_none,errW_some] <;> rfl)|(simp [*,errW_none,errW_some] <;> rfl),Kd.V_mono (Kd.R_V (by (with_reducible repeat first|apply Kd.R_alloc|apply Kd.R_drewN|apply Kd.R_drew);exact Kd.R_mono HO223.out (fun _ hk=>hk.1))) (fun k_ hk=>by first|exact ⟨(.inr (hk.1)),hk.2⟩|exact (.inr (hk))),by repeat (first|(with_reducible first|exact HB.out|apply qA|apply qN|apply q1_)|exact HB.out)⟩
         ·rw [if_neg c14] at H
          exact absurd H (by simp)
        ·rw [if_neg c11] at H
         exact absurd H (by simp)
       ·rw [if_neg c9] at H
        exact absurd H (by simp)
    ·rw [if_neg c4] at H
     exact absurd H (by simp)
   ·rw [if_neg c3] at H
    have c3b0:decide (x5_1<(l0.length:Int))=false:=decide_eq_false c3
    clear c3
    by_cases c25:0≤x5_1
    ·rw [if_pos c25] at H
     have c25b0:=eq_true c25
     have c25b1:decide (0≤x5_1)=true:=decide_eq_true c25
     clear c25
     by_cases c26:x5_1≤(l0.length:Int)
     ·rw [if_pos c26] at H
      have c26b0:=eq_true c26
      have c26b1:decide (x5_1≤(l0.length:Int))=true:=decide_eq_true c26
      clear c26
      obtain ⟨y224,hy224⟩:∃ y_:List ByteArray,y_=(l0.take (x5_1:Int).toNat):=⟨_,rfl⟩
      replace H:((spec_l2Own.f y224).bind fun t229=>((some (([a1]:List ByteArray):List ByteArray)).bind fun y232=>(if t229.length+y232.length<8796093022208 then ((some (t229 ++ y232:List ByteArray)).bind fun y235=>((some (l0.drop (x5_1:Int).toNat:List ByteArray)).bind fun y238=>(if y235.length+y238.length<8796093022208 then (some (y235 ++ y238)) else (none)))) else (none))))=some r:=by first|(rw [hy224];with_reducible exact H)|(have H2_:=(Option.bind_some _ _).symm.trans H;rw [hy224];with_reducible exact H2_)|(have H2_:=(Option.bind_some _ _).symm.trans H;with_reducible exact H2_)|with_reducible exact H|(rw [hy224];exact H)|exact H
      have Ny224:=Zz.mk hy224
      clear hy224
      replace H:=Option.bind_eq_some_iff.mp H
      obtain ⟨t229,A270,H⟩:=H
      replace H:((some (([a1]:List ByteArray):List ByteArray)).bind fun y232=>(if t229.length+y232.length<8796093022208 then ((some (t229 ++ y232:List ByteArray)).bind fun y235=>((some (l0.drop (x5_1:Int).toNat:List ByteArray)).bind fun y238=>(if y235.length+y238.length<8796093022208 then (some (y235 ++ y238)) else (none)))) else (none)))=some r:=H
      have A27:=Zz.mk A270
      clear A270
      obtain ⟨y232,hy232⟩:∃ y_:List ByteArray,y_=(([a1]:List ByteArray)):=⟨_,rfl⟩
      replace H:(if t229.length+y232.length<8796093022208 then ((some (t229 ++ y232:List ByteArray)).bind fun y235=>((some (l0.drop (x5_1:Int).toNat:List ByteArray)).bind fun y238=>(if y235.length+y238.length<8796093022208 then (some (y235 ++ y238)) else (none)))) else (none))=some r:=by first|(rw [hy232];with_reducible exact H)|(have H2_:=(Option.bind_some _ _).symm.trans H;rw [hy232];with_reducible exact H2_)|(have H2_:=(Option.bind_some _ _).symm.trans H;with_reducible exact H2_)|with_reducible exact H|(rw [hy232];exact H)|exact H
      have Ny232:=Zz.mk hy232
      clear hy232
      by_cases c28:t229.length+y232.length<8796093022208
      ·rw [if_pos c28] at H
       have LMc28:=Zz.mk c28
       clear c28
       obtain ⟨y235,hy235⟩:∃ y_:List ByteArray,y_=(t229 ++ y232):=⟨_,rfl⟩
       replace H:((some (l0.drop (x5_1:Int).toNat:List ByteArray)).bind fun y238=>(if y235.length+y238.length<8796093022208 then (some (y235 ++ y238)) else (none)))=some r:=by first|(rw [hy235];with_reducible exact H)|(have H2_:=(Option.bind_some _ _).symm.trans H;rw [hy235];with_reducible exact H2_)|(have H2_:=(Option.bind_some _ _).symm.trans H;with_reducible exact H2_)|with_reducible exact H|(rw [hy235];exact H)|exact H
       have Ny235:=Zz.mk hy235
       clear hy235
       have c29b0:=eq_true (of_decide_eq_true (by first|(with_reducible assumption)|assumption):0≤x5_1)
       have c30b0:=eq_true (of_decide_eq_true (by first|(with_reducible assumption)|assumption):x5_1≤(l0.length:Int))
       obtain ⟨y238,hy238⟩:∃ y_:List ByteArray,y_=(l0.drop (x5_1:Int).toNat):=⟨_,rfl⟩
       replace H:(if y235.length+y238.length<8796093022208 then (some (y235 ++ y238)) else (none))=some r:=by first|(rw [hy238];with_reducible exact H)|(have H2_:=(Option.bind_some _ _).symm.trans H;rw [hy238];with_reducible exact H2_)|(have H2_:=(Option.bind_some _ _).symm.trans H;with_reducible exact H2_)|with_reducible exact H|(rw [hy238];exact H)|exact H
       have Ny238:=Zz.mk hy238
       clear hy238
       by_cases c31:y235.length+y238.length<8796093022208
       ·rw [if_pos c31] at H
        have LMc31:=Zz.mk c31
        clear c31
        obtain ⟨y243,hy243⟩:∃ y_:List ByteArray,y_=(y235 ++ y238):=⟨_,rfl⟩
        replace H:(some y243)=some r:=by first|(rw [hy243];with_reducible exact H)|(have H2_:=(Option.bind_some _ _).symm.trans H;rw [hy243];with_reducible exact H2_)|(have H2_:=(Option.bind_some _ _).symm.trans H;with_reducible exact H2_)|with_reducible exact H|(rw [hy243];exact H)|exact H
        have Ny243:=Zz.mk hy243
        clear hy243
        obtain rfl:=Option.some.inj H
        try go_wp2
        have n0_:=Zz.mk (Kd.V_drew HO_0.out)
        have n1_:=Zz.mk (q1_ HB.out)
        revert n0_ n1_
        clear HO_0 HB
        intro HO_0 HB
        have q33:(x5_1:Int)≤((l0.length:Int):Int):=of_decide_eq_true (by first|(with_reducible assumption)|assumption)
        obtain ⟨i033,hi033,_,hsz33,_⟩:=info_parts info9
        have hroom33:l0.length≤c0:=(Kd.V_reads' HO_0.out).2.1
        have hC33:Kd.F Kd.string _ _ A0 l0.length l0:=(Kd.V_at (base:=w.heap.size) HO_0.out).2.2
        have hcut33:=cut_to (P:=Tryz.prog) 43 9 .i64 Tryz.underlying43 hi033 A0 l0.length c0 x5_1 (of_decide_eq_true (by first|(with_reducible assumption)|assumption)) q33 hroom33
        have hr33:=Kd.F_take (m:=(x5_1:Int).toNat) hC33 (by omega)
        have hy33:y224.length=(x5_1:Int).toNat:=(by rw [Ny224.out,List.length_take];omega)
        rw [← Ny224.out] at hr33
        rw [← hy33] at hcut33
        have HO228:=Zz.mk (show Kd.V Kd.string 9 _ w.heap.size _ (.slice A0 y224.length c0) y224 from Kd.V_mk (by omega) hr33)
        have HC228:=Zz.mk (show y224.length≤c0 from by omega)
        clear hr33 hC33 hroom33 hi033 hsz33
        have KY33:=Zz.mk hy33
        clear hy33
        replace q33:=eq_true q33
        have q34:(x5_1:Int)≤((l0.length:Int):Int):=of_decide_eq_true (by first|(with_reducible assumption)|assumption)
        obtain ⟨i034,hi034,_,hsz34,_⟩:=info_parts info9
        have hroom34:l0.length≤c0:=(Kd.V_reads' HO_0.out).2.1
        have hC34:Kd.F Kd.string _ _ A0 l0.length l0:=(Kd.V_at (base:=w.heap.size) HO_0.out).2.2
        have q034:(0:Int)≤(x5_1:Int):=of_decide_eq_true (by first|(with_reducible assumption)|assumption)
        have hcut34:=cut_from (P:=Tryz.prog) 43 9 .i64 Tryz.underlying43 hi034 1 hsz34 A0 l0.length c0 x5_1 q034 q34
        have hr34:=Kd.F_cut (m:=(x5_1:Int).toNat) (c:=c0) hC34 (by omega) hroom34
        obtain ⟨A34,hA34⟩:∃ A1,A1=(if c0=(x5_1:Int).toNat then A0 else (A0:Option Addr).map (·.add ((x5_1:Int).toNat * 1))):=⟨_,rfl⟩
        obtain ⟨c34,hc34⟩:∃ c1,c1=c0 - (x5_1:Int).toNat:=⟨_,rfl⟩
        have hy34:y238.length=l0.length - (x5_1:Int).toNat:=(by rw [Ny238.out,List.length_drop] <;> omega)
        rw [show (l0).drop (x5_1:Int).toNat=y238 from Ny238.out.symm] at hr34
        replace hr34:Kd.F Kd.string _ _ A34 y238.length y238:=(by rw [hA34];exact hr34)
        rw [← hy34,← hA34,← hc34] at hcut34
        have HO242:=Zz.mk (show Kd.V Kd.string 9 _ w.heap.size _ (.slice A34 y238.length c34) y238 from Kd.V_mk (by rw [hy34,hc34];exact Nat.sub_le_sub_right hroom34 _) hr34)
        have HC242:=Zz.mk (show y238.length≤c34 from by rw [hy34,hc34];exact Nat.sub_le_sub_right hroom34 _)
        clear hr34 hC34 hroom34 hi034 hsz34 hc34
        have KY34:=Zz.mk hy34
        have KA34:=Zz.mk hA34
        clear hy34 hA34
        replace q34:=eq_true q34
        refine start_ (n:=12) (S:=fun w'=>True) (ds:=[]) #[false,false,false,false,false,false,false,false,false,false,false,false] (by kernel_rfl) rfl rfl trivial (fun hHeld=>?_);refine with_tabW spec_l2Put.tab6 spec_l2Put.bits6 (fun HT_ HW_=>?_)
        generalize wr.drew=w32 at HO_0 HB HO228 HO242 hHeld ⊢
        refine pure_ (i:=0) (N:=some 33) (v:=?_) (a':=?_) #[true,false,false,false,false,false,false,false,false,false,false,false] rfl rfl (any_of HT_.out (by kernel_rfl)) (fun _ _ _ h=>h) (Or.inl ⟨by rfl,?_⟩) ?_ ?_
        rotate_left
        ·intro w'
         go_simp
         with_reducible rfl
        rotate_left
        ·simp only [Act.put,List.setIfInBounds_toArray,List.set_cons_zero,List.set_cons_succ,i64_w,i32_w]
         rfl
        refine pure_ (i:=1) (N:=some 34) (v:=?_) (a':=?_) #[true,true,false,false,false,false,false,false,false,false,false,false] rfl rfl (any_of HT_.out (by kernel_rfl)) (fun _ _ _ h=>h) (Or.inl ⟨by rfl,?_⟩) ?_ ?_
        rotate_left
        ·intro w'
         go_simp
         with_reducible rfl
        rotate_left
        ·simp only [Act.put,List.setIfInBounds_toArray,List.set_cons_zero,List.set_cons_succ,i64_w,i32_w]
         rfl
        refine pure_ (i:=2) (N:=some 35) (v:=?_) (a':=?_) #[true,true,true,false,false,false,false,false,false,false,false,false] rfl rfl (any_of HT_.out (by kernel_rfl)) (fun _ _ _ h=>h) (Or.inl ⟨by rfl,?_⟩) ?_ ?_
        rotate_left
        ·intro w'
         go_simp
         with_reducible rfl
        rotate_left
        ·simp only [Act.put,List.setIfInBounds_toArray,List.set_cons_zero,List.set_cons_succ,i64_w,i32_w]
         rfl
        refine pure_ (i:=4) (N:=some 37) (v:=?_) (a':=?_) #[true,true,true,false,true,false,false,false,false,false,false,false] rfl rfl (any_of HT_.out (by kernel_rfl)) (fun _ _ _ h=>h) (Or.inl ⟨by rfl,?_⟩) ?_ ?_
        rotate_left
        ·intro w'
         go_simp
         with_reducible rfl
        rotate_left
        ·simp only [Act.put,List.setIfInBounds_toArray,List.set_cons_zero,List.set_cons_succ,i64_w,i32_w]
         rfl
        refine pure_ (i:=7) (N:=some 40) (v:=?_) (a':=?_) #[true,true,true,false,true,false,false,true,false,false,false,false] rfl rfl (any_of HT_.out (by kernel_rfl)) (fun _ _ _ h=>h) (Or.inl ⟨by rfl,?_⟩) ?_ ?_
        rotate_left
        ·intro w'
         go_simp
         with_reducible rfl
        rotate_left
        ·simp only [Act.put,List.setIfInBounds_toArray,List.set_cons_zero,List.set_cons_succ,i64_w,i32_w]
         rfl
        refine pure_ (i:=8) (N:=some 41) (v:=?_) (a':=?_) #[true,true,true,false,true,false,false,true,true,false,false,false] rfl rfl (any_of HT_.out (by kernel_rfl)) (fun _ _ _ h=>h) (Or.inl ⟨by rfl,?_⟩) ?_ ?_
        rotate_left
        ·intro w'
         go_simp
         with_reducible rfl
        rotate_left
        ·simp only [Act.put,List.setIfInBounds_toArray,List.set_cons_zero,List.set_cons_succ,i64_w,i32_w]
         rfl
        refine pure_ (i:=9) (N:=some 42) (v:=?_) (a':=?_) #[true,true,true,false,true,false,false,true,true,true,false,false] rfl rfl (any_of HT_.out (by kernel_rfl)) (fun _ _ _ h=>h) (Or.inl ⟨by rfl,?_⟩) ?_ ?_
        rotate_left
        ·intro w'
         go_simp
         with_reducible rfl
        rotate_left
        ·simp only [Act.put,List.setIfInBounds_toArray,List.set_cons_zero,List.set_cons_succ,i64_w,i32_w]
         rfl
        refine join_ (σ:=Value × Value) 3 #[true,true,true,true,true,true,false,true,true,true,false,false] (fun s_=>[(36,s_.1),(38,s_.2)]) (fun s_ w'=>(Kd.V Kd.string 9 w' w.heap.size (fun k_=>(P0_ k_∨w.heap.size≤k_)∧some k_ ≠ (s_.1:Value).ownBlock∧some k_ ≠ (s_.2:Value).ownBlock) (.slice A0 y224.length c0) y224)∧(Kd.R Kd.string 9 w' w.heap.size (fun k_=>(w.heap.size≤k_)∧some k_ ≠ (s_.2:Value).ownBlock) s_.1 t229)∧(Kd.R Kd.string 9 w' w.heap.size (fun k_=>(w.heap.size≤k_)∧some k_ ≠ (s_.1:Value).ownBlock) s_.2 y232)∧(Kd.V Kd.string 9 w' w.heap.size (fun k_=>(P0_ k_∨w.heap.size≤k_)∧some k_ ≠ (s_.1:Value).ownBlock∧some k_ ≠ (s_.2:Value).ownBlock) (.slice A34 y238.length c34) y238)∧(Kd.V Kd.string 9 w' w.heap.size (fun k_=>(P0_ k_∨w.heap.size≤k_)∧some k_ ≠ (s_.1:Value).ownBlock∧some k_ ≠ (s_.2:Value).ownBlock) (.slice A0 l0.length c0) l0)∧(Below w.heap.size w w')) ?_ ?_
        rotate_left
        ·intro hCont
         refine two_ (i:=3) (j:=5) (Ni:=some 36) (Nj:=some 38) #[true,true,true,true,true,false,false,true,true,true,false,false] #[true,true,true,false,true,true,false,true,true,true,false,false] rfl rfl rfl rfl (two_of HT_.out (by kernel_rfl)) (by decide) (by decide) (fun K hK=>?_) (fun K hK=>?_)
         ·skip
          refine goes_ Tryz.func95 (by kernel_rfl) rfl #[.slice A0 y224.length c0] (by rfl) rfl rfl (by (try simp only [List.map_toArray,List.map_cons,List.map_nil]);first|done|rfl|(simp only [List.length_drop,List.length_take];rfl)) ?_
          with_reducible refine (spec_l2Own.calls _ _ y224 t229 _ ?side1 ?side2 A27.out).mono ?_
          (case side1=>exact (Kd.V_reads' HO228.out).2.2)
          (case side2=>exact (Kd.V_reads' HO228.out).2.1)
          rintro e w35 ⟨v230,rfl,ho0,hb⟩
          refine ⟨_,rfl,?_⟩
          have n0_:=Zz.mk (Kd.V_elder' (by (with_reducible repeat (first|apply Kd.V_alloc|apply Kd.V_drewN|apply Kd.V_drew));exact HO_0.out) (Kd.R_base ho0) hb)
          have n1_:=Zz.mk (Kd.V_elder' (by (with_reducible repeat (first|apply Kd.V_alloc|apply Kd.V_drewN|apply Kd.V_drew));exact HO228.out) (Kd.R_base ho0) hb)
          have n2_:=Zz.mk (Kd.V_elder' (by (with_reducible repeat (first|apply Kd.V_alloc|apply Kd.V_drewN|apply Kd.V_drew));exact HO242.out) (Kd.R_base ho0) hb)
          have n3_:=Zz.mk (Kd.R_lower (Kd.R_newM (M:=fun k_=>(w.heap.size≤k_)) ho0 (qZ HB.out) (fun k_ h_=>h_)) (qZ HB.out))
          have n4_:=Zz.mk (qP HB.out hb)
          revert n0_ n1_ n2_ n3_ n4_
          clear HO_0 HO228 HO242 HB
          intro HO_0 HO228 HO242 HO231 HB
          (try clear hb)
          (try clear hb2)
          (try clear hk)
          (try clear hi)
          (try clear ho0)
          refine hK.out _ _ trivial (fun hHeld=>?_)
          clear hK K
          refine norm_ (a':=?_) ?_ ?_
          rotate_left
          ·show Act.put _ (some 36) _=_
           simp only [Act.put,List.setIfInBounds_toArray,List.set_cons_zero,List.set_cons_succ,i64_w,i32_w]
           rfl
          refine one_ (i:=5) (N:=some 38) #[true,true,true,true,true,true,false,true,true,true,false,false] rfl rfl (one_of HT_.out (by kernel_rfl)) (by decide) (fun K hK=>?_)
          refine Kd.R_lit_step Kd.string _ 9 ?hg (N:=38) ?hd (xs:=([a1]:List ByteArray)) (inner:=[.string a1]) (ok:=fun _=>True) (okp:=fun _=>True) ?hr ?hp (fun _ hk=>hk) trivial (Below.refl _ _) (Nat.le_refl _) (by simp) ?_;(case hd=>rfl);(case hg=>rfl);(case hr=>first|(go_simp;done)|(go_simp;rfl));(case hp=>exact (Reps.one (show Kd.M Kd.string _ _ _ a1 [.string a1] from rfl) (Reps.none _ _)))
          intro v233 w36 ho37 hb hg_ hnew_
          clear hg_ hnew_
          (first|rw [← Ny232.out] at ho37|(simp only [Int.reduceToNat] at ho37;rw [← Ny232.out] at ho37))
          have n0_:=Zz.mk (Kd.V_elder' (by (with_reducible repeat (first|apply Kd.V_alloc|apply Kd.V_drewN|apply Kd.V_drew));exact HO_0.out) (Kd.R_base ho37) hb)
          have n1_:=Zz.mk (Kd.V_elder' (by (with_reducible repeat (first|apply Kd.V_alloc|apply Kd.V_drewN|apply Kd.V_drew));exact HO228.out) (Kd.R_base ho37) hb)
          have n2_:=Zz.mk (Kd.V_elder' (by (with_reducible repeat (first|apply Kd.V_alloc|apply Kd.V_drewN|apply Kd.V_drew));exact HO242.out) (Kd.R_base ho37) hb)
          have n3_:=Zz.mk (Kd.R_elder' HO231.out (Kd.R_base ho37) hb)
          have n4_:=Zz.mk (Kd.R_lower (Kd.R_new' (Kd.R_newM (M:=fun k_=>(w.heap.size≤k_)) ho37 (qZ HB.out) (fun k_ h_=>h_)) (Kd.R_lt HO231.out)) (qZ HB.out))
          have n5_:=Zz.mk (qP HB.out hb)
          revert n0_ n1_ n2_ n3_ n4_ n5_
          clear HO_0 HO228 HO242 HO231 HB
          intro HO_0 HO228 HO242 HO231 HO234 HB
          clear hb ho37
          refine hK.out _ _ trivial (fun hHeld=>?_)
          clear hK K
          refine norm_ (a':=?_) ?_ ?_
          rotate_left
          ·show Act.put _ (some 38) _=_
           simp only [Act.put,List.setIfInBounds_toArray,List.set_cons_zero,List.set_cons_succ,i64_w,i32_w]
           rfl
          exact norm_ (by simp only [putAll,Act.put,List.setIfInBounds_toArray,List.set_cons_zero,List.set_cons_succ]) (hCont (v230,v233) _ ⟨(by (with_reducible repeat (first|apply Kd.V_alloc|apply Kd.V_drewN|apply Kd.V_drew));exact Kd.V_mono HO228.out (fun _ hk=>⟨hk.1.1,⟨hk.1.2,hk.2⟩⟩)),(Kd.R_mono HO231.out (fun _ hk=>⟨hk.1.1,hk.2⟩)),(Kd.R_mono HO234.out (fun _ hk=>⟨hk.1.1,hk.2⟩)),(by (with_reducible repeat (first|apply Kd.V_alloc|apply Kd.V_drewN|apply Kd.V_drew));exact Kd.V_mono HO242.out (fun _ hk=>⟨hk.1.1,⟨hk.1.2,hk.2⟩⟩)),(by (with_reducible repeat (first|apply Kd.V_alloc|apply Kd.V_drewN|apply Kd.V_drew));exact Kd.V_mono HO_0.out (fun _ hk=>⟨hk.1.1,⟨hk.1.2,hk.2⟩⟩)),HB.out⟩)
         ·skip
          refine Kd.R_lit_step Kd.string _ 9 ?hg (N:=38) ?hd (xs:=([a1]:List ByteArray)) (inner:=[.string a1]) (ok:=fun _=>True) (okp:=fun _=>True) ?hr ?hp (fun _ hk=>hk) trivial (Below.refl _ _) (Nat.le_refl _) (by simp) ?_;(case hd=>rfl);(case hg=>rfl);(case hr=>first|(go_simp;done)|(go_simp;rfl));(case hp=>exact (Reps.one (show Kd.M Kd.string _ _ _ a1 [.string a1] from rfl) (Reps.none _ _)))
          intro v233 w35 ho36 hb hg_ hnew_
          clear hg_ hnew_
          (first|rw [← Ny232.out] at ho36|(simp only [Int.reduceToNat] at ho36;rw [← Ny232.out] at ho36))
          have n0_:=Zz.mk (Kd.V_elder' (by (with_reducible repeat (first|apply Kd.V_alloc|apply Kd.V_drewN|apply Kd.V_drew));exact HO_0.out) (Kd.R_base ho36) hb)
          have n1_:=Zz.mk (Kd.V_elder' (by (with_reducible repeat (first|apply Kd.V_alloc|apply Kd.V_drewN|apply Kd.V_drew));exact HO228.out) (Kd.R_base ho36) hb)
          have n2_:=Zz.mk (Kd.V_elder' (by (with_reducible repeat (first|apply Kd.V_alloc|apply Kd.V_drewN|apply Kd.V_drew));exact HO242.out) (Kd.R_base ho36) hb)
          have n3_:=Zz.mk (Kd.R_lower (Kd.R_newM (M:=fun k_=>(w.heap.size≤k_)) ho36 (qZ HB.out) (fun k_ h_=>h_)) (qZ HB.out))
          have n4_:=Zz.mk (qP HB.out hb)
          revert n0_ n1_ n2_ n3_ n4_
          clear HO_0 HO228 HO242 HB
          intro HO_0 HO228 HO242 HO234 HB
          clear hb ho36
          refine hK.out _ _ trivial (fun hHeld=>?_)
          clear hK K
          refine norm_ (a':=?_) ?_ ?_
          rotate_left
          ·show Act.put _ (some 38) _=_
           simp only [Act.put,List.setIfInBounds_toArray,List.set_cons_zero,List.set_cons_succ,i64_w,i32_w]
           rfl
          refine one_ (i:=3) (N:=some 36) #[true,true,true,true,true,true,false,true,true,true,false,false] rfl rfl (one_of HT_.out (by kernel_rfl)) (by decide) (fun K hK=>?_)
          refine goes_ Tryz.func95 (by kernel_rfl) rfl #[.slice A0 y224.length c0] (by rfl) rfl rfl (by (try simp only [List.map_toArray,List.map_cons,List.map_nil]);first|done|rfl|(simp only [List.length_drop,List.length_take];rfl)) ?_
          with_reducible refine (spec_l2Own.calls _ _ y224 t229 _ ?side1 ?side2 A27.out).mono ?_
          (case side1=>exact (Kd.V_reads' HO228.out).2.2)
          (case side2=>exact (Kd.V_reads' HO228.out).2.1)
          rintro e w37 ⟨v230,rfl,ho0,hb⟩
          refine ⟨_,rfl,?_⟩
          have n0_:=Zz.mk (Kd.V_elder' (by (with_reducible repeat (first|apply Kd.V_alloc|apply Kd.V_drewN|apply Kd.V_drew));exact HO_0.out) (Kd.R_base ho0) hb)
          have n1_:=Zz.mk (Kd.V_elder' (by (with_reducible repeat (first|apply Kd.V_alloc|apply Kd.V_drewN|apply Kd.V_drew));exact HO228.out) (Kd.R_base ho0) hb)
          have n2_:=Zz.mk (Kd.V_elder' (by (with_reducible repeat (first|apply Kd.V_alloc|apply Kd.V_drewN|apply Kd.V_drew));exact HO242.out) (Kd.R_base ho0) hb)
          have n3_:=Zz.mk (Kd.R_elder' HO234.out (Kd.R_base ho0) hb)
          have n4_:=Zz.mk (Kd.R_lower (Kd.R_new' (Kd.R_newM (M:=fun k_=>(w.heap.size≤k_)) ho0 (qZ HB.out) (fun k_ h_=>h_)) (Kd.R_lt HO234.out)) (qZ HB.out))
          have n5_:=Zz.mk (qP HB.out hb)
          revert n0_ n1_ n2_ n3_ n4_ n5_
          clear HO_0 HO228 HO242 HO234 HB
          intro HO_0 HO228 HO242 HO234 HO231 HB
          (try clear hb)
          (try clear hb2)
          (try clear hk)
          (try clear hi)
          (try clear ho0)
          refine hK.out _ _ trivial (fun hHeld=>?_)
          clear hK K
          refine norm_ (a':=?_) ?_ ?_
          rotate_left
          ·show Act.put _ (some 36) _=_
           simp only [Act.put,List.setIfInBounds_toArray,List.set_cons_zero,List.set_cons_succ,i64_w,i32_w]
           rfl
          exact norm_ (by simp only [putAll,Act.put,List.setIfInBounds_toArray,List.set_cons_zero,List.set_cons_succ]) (hCont (v230,v233) _ ⟨(by (with_reducible repeat (first|apply Kd.V_alloc|apply Kd.V_drewN|apply Kd.V_drew));exact Kd.V_mono HO228.out (fun _ hk=>⟨hk.1.1,⟨hk.2,hk.1.2⟩⟩)),(Kd.R_mono HO231.out (fun _ hk=>⟨hk.1.1,hk.2⟩)),(Kd.R_mono HO234.out (fun _ hk=>⟨hk.1.1,hk.2⟩)),(by (with_reducible repeat (first|apply Kd.V_alloc|apply Kd.V_drewN|apply Kd.V_drew));exact Kd.V_mono HO242.out (fun _ hk=>⟨hk.1.1,⟨hk.2,hk.1.2⟩⟩)),(by (with_reducible repeat (first|apply Kd.V_alloc|apply Kd.V_drewN|apply Kd.V_drew));exact Kd.V_mono HO_0.out (fun _ hk=>⟨hk.1.1,⟨hk.2,hk.1.2⟩⟩)),HB.out⟩)
        rintro ⟨v230,v233⟩ w38 ⟨h0_,h1_,h2_,h3_,h4_,h5_⟩
        have n0_:Zz (Kd.V Kd.string 9 w38 w.heap.size (fun k_=>(P0_ k_∨w.heap.size≤k_)∧some k_ ≠ (v230:Value).ownBlock∧some k_ ≠ (v233:Value).ownBlock) (.slice A0 y224.length c0) y224):=⟨h0_⟩
        have n1_:Zz (Kd.R Kd.string 9 w38 w.heap.size (fun k_=>(w.heap.size≤k_)∧some k_ ≠ (v233:Value).ownBlock) v230 t229):=⟨h1_⟩
        have n2_:Zz (Kd.R Kd.string 9 w38 w.heap.size (fun k_=>(w.heap.size≤k_)∧some k_ ≠ (v230:Value).ownBlock) v233 y232):=⟨h2_⟩
        have n3_:Zz (Kd.V Kd.string 9 w38 w.heap.size (fun k_=>(P0_ k_∨w.heap.size≤k_)∧some k_ ≠ (v230:Value).ownBlock∧some k_ ≠ (v233:Value).ownBlock) (.slice A34 y238.length c34) y238):=⟨h3_⟩
        have n4_:Zz (Kd.V Kd.string 9 w38 w.heap.size (fun k_=>(P0_ k_∨w.heap.size≤k_)∧some k_ ≠ (v230:Value).ownBlock∧some k_ ≠ (v233:Value).ownBlock) (.slice A0 l0.length c0) l0):=⟨h4_⟩
        have n5_:Zz (Below w.heap.size w w38):=⟨h5_⟩
        clear HO_0
        clear HB
        clear h0_ h1_ h2_ h3_ h4_ h5_
        have HO228:=n0_
        have HO231:=n1_
        have HO234:=n2_
        have HO242:=n3_
        have HO_0:=n4_
        have HB:=n5_
        clear n0_ n1_ n2_ n3_ n4_ n5_
        have hHeld:=trivial
        obtain ⟨Ao40,co40,eo40⟩:=Kd.R_slice HO234.out
        (first|subst eo40|(injection eo40 with f1_ f2_ f3_;have f4_:=f1_.symm;have f5_:=f3_.symm;clear f1_ f2_ f3_;subst f4_;subst f5_))
        refine norm_ (a':=?_) ?_ ?_
        rotate_left
        ·simp only [putAll,Act.put,List.setIfInBounds_toArray,List.set_cons_zero,List.set_cons_succ]
         rfl
        refine one_ (i:=6) (N:=some 39) #[true,true,true,true,true,true,true,true,true,true,false,false] rfl rfl (one_of HT_.out (by kernel_rfl)) (by decide) (fun K hK=>?_)
        refine Kd.R_append_rows_step Kd.string (w0:=w) w.heap.size (by rfl) (.tmp 36) (.tmp 38) 43 9 (.string ⟨#[]⟩) 16 rfl Tryz.underlying43 info9 rfl (by decide) (by omega) v230 t229 y232 _ _ _ (fun k_=>(w.heap.size≤k_)∧some k_ ≠ (.slice Ao40 y232.length co40:Value).ownBlock) (fun _=>False) rfl rfl ?aO ?aR (fun _ _ h=>h) (fun _ h=>h.elim) ?aF ?aB ?aS ?aL ?_
        (case aR=>repeat (first|exact (Kd.R_reads' HO234.out).2.2|(with_reducible refine Kd.C_alloc ?_ _)|(with_reducible refine Kd.C_drewN ?_ _)|(with_reducible refine Kd.C_drew ?_)))
        (case aB=>exact (by repeat (first|(with_reducible first|exact HB.out|apply qA|apply qN|apply q1_)|exact HB.out)))
        (case aF=>exact (fun k_ hk=>⟨(Nat.le_trans (qZ (by repeat (first|(with_reducible first|exact HB.out|apply qA|apply qN|apply q1_)|exact HB.out))) hk),Kd.fresh' (Kd.R_lt (by (with_reducible repeat first|apply Kd.R_alloc|apply Kd.R_drewN|apply Kd.R_drew);exact HO234.out)) k_ hk⟩))
        (case aO=>exact (by (with_reducible repeat first|apply Kd.R_alloc|apply Kd.R_drewN|apply Kd.R_drew);exact HO231.out))
        (case aS=>exact (qZ (by repeat (first|(with_reducible first|exact HB.out|apply qA|apply qN|apply q1_)|exact HB.out))))
        (case aL=>have:=LMc28.out;omega)
        intro v236 w39 ho hb hg hat
        rw [← Ny235.out] at ho
        have n0_:=Zz.mk (Kd.V_afterv (ok:=(fun k_=>(P0_ k_∨w.heap.size≤k_)∧some k_ ≠ (.slice Ao40 y232.length co40:Value).ownBlock)) (by (with_reducible repeat (first|apply Kd.V_alloc|apply Kd.V_drewN|apply Kd.V_drew));exact Kd.V_mono HO_0.out (fun _ hk=>⟨⟨hk.1,hk.2.2⟩,hk.2.1⟩)) hg hat)
        have n1_:=Zz.mk (Kd.V_afterv (ok:=(fun k_=>(P0_ k_∨w.heap.size≤k_)∧some k_ ≠ (.slice Ao40 y232.length co40:Value).ownBlock)) (by (with_reducible repeat (first|apply Kd.V_alloc|apply Kd.V_drewN|apply Kd.V_drew));exact Kd.V_mono HO228.out (fun _ hk=>⟨⟨hk.1,hk.2.2⟩,hk.2.1⟩)) hg hat)
        have n2_:=Zz.mk (Kd.V_afterv (ok:=(fun k_=>(P0_ k_∨w.heap.size≤k_)∧some k_ ≠ (.slice Ao40 y232.length co40:Value).ownBlock)) (by (with_reducible repeat (first|apply Kd.V_alloc|apply Kd.V_drewN|apply Kd.V_drew));exact Kd.V_mono HO242.out (fun _ hk=>⟨⟨hk.1,hk.2.2⟩,hk.2.1⟩)) hg hat)
        have n3_:=Zz.mk (Kd.R_after (ok:=(fun k_=>(w.heap.size≤k_))) HO234.out hg hat)
        have n4_:=Zz.mk (hb)
        have n5_:=Zz.mk (ho)
        revert n0_ n1_ n2_ n3_ n4_ n5_
        clear HO_0 HO228 HO242 HO234 HB HO231
        intro HO_0 HO228 HO242 HO234 HB HO237
        clear ho hb hg hat
        refine hK.out _ _ trivial (fun hHeld=>?_)
        clear hK K
        refine norm_ (a':=?_) ?_ ?_
        rotate_left
        ·show Act.put _ (some 39) _=_
         simp only [Act.put,List.setIfInBounds_toArray,List.set_cons_zero,List.set_cons_succ,i64_w,i32_w]
         rfl
        refine one_ (i:=10) (N:=some 43) #[true,true,true,true,true,true,true,true,true,true,true,false] rfl rfl (one_of HT_.out (by kernel_rfl)) (by decide) (fun K hK=>?_)
        refine Kd.R_append_rows_step Kd.string (w0:=w) w.heap.size (by rfl) (.tmp 39) (.tmp 42) 43 9 (.string ⟨#[]⟩) 16 rfl Tryz.underlying43 info9 rfl (by decide) (by omega) v236 y235 y238 _ _ _ (fun k_=>(w.heap.size≤k_)∧some k_ ≠ (.slice Ao40 y232.length co40:Value).ownBlock) (fun _=>False) rfl rfl ?aO ?aR (fun _ _ h=>h) (fun _ h=>h.elim) ?aF ?aB ?aS ?aL ?_
        (case aR=>repeat (first|exact (Kd.V_reads' HO242.out).2.2|(with_reducible refine Kd.C_alloc ?_ _)|(with_reducible refine Kd.C_drewN ?_ _)|(with_reducible refine Kd.C_drew ?_)))
        (case aB=>exact (by repeat (first|(with_reducible first|exact HB.out|apply qA|apply qN|apply q1_)|exact HB.out)))
        (case aF=>exact (fun k_ hk=>⟨(Nat.le_trans (qZ (by repeat (first|(with_reducible first|exact HB.out|apply qA|apply qN|apply q1_)|exact HB.out))) hk),Kd.fresh' (Kd.R_lt (by (with_reducible repeat first|apply Kd.R_alloc|apply Kd.R_drewN|apply Kd.R_drew);exact HO234.out)) k_ hk⟩))
        (case aO=>exact (by (with_reducible repeat first|apply Kd.R_alloc|apply Kd.R_drewN|apply Kd.R_drew);exact HO237.out))
        (case aS=>exact (qZ (by repeat (first|(with_reducible first|exact HB.out|apply qA|apply qN|apply q1_)|exact HB.out))))
        (case aL=>have:=LMc31.out;omega)
        intro v244 w41 ho hb hg hat
        rw [← Ny243.out] at ho
        have n0_:=Zz.mk (Kd.V_afterv (ok:=(fun k_=>(P0_ k_∨w.heap.size≤k_)∧some k_ ≠ (.slice Ao40 y232.length co40:Value).ownBlock)) (by (with_reducible repeat (first|apply Kd.V_alloc|apply Kd.V_drewN|apply Kd.V_drew));exact HO_0.out) hg hat)
        have n1_:=Zz.mk (Kd.V_afterv (ok:=(fun k_=>(P0_ k_∨w.heap.size≤k_)∧some k_ ≠ (.slice Ao40 y232.length co40:Value).ownBlock)) (by (with_reducible repeat (first|apply Kd.V_alloc|apply Kd.V_drewN|apply Kd.V_drew));exact HO228.out) hg hat)
        have n2_:=Zz.mk (Kd.V_afterv (ok:=(fun k_=>(P0_ k_∨w.heap.size≤k_)∧some k_ ≠ (.slice Ao40 y232.length co40:Value).ownBlock)) (by (with_reducible repeat (first|apply Kd.V_alloc|apply Kd.V_drewN|apply Kd.V_drew));exact HO242.out) hg hat)
        have n3_:=Zz.mk (Kd.R_after (ok:=(fun k_=>(w.heap.size≤k_))) HO234.out hg hat)
        have n4_:=Zz.mk (hb)
        have n5_:=Zz.mk (ho)
        revert n0_ n1_ n2_ n3_ n4_ n5_
        clear HO_0 HO228 HO242 HO234 HB HO237
        intro HO_0 HO228 HO242 HO234 HB HO245
        clear ho hb hg hat
        refine hK.out _ _ trivial (fun hHeld=>?_)
        clear hK K
        refine norm_ (a':=?_) ?_ ?_
        rotate_left
        ·show Act.put _ (some 43) _=_
         simp only [Act.put,List.setIfInBounds_toArray,List.set_cons_zero,List.set_cons_succ,i64_w,i32_w]
         rfl
        refine pure_ (i:=11) (N:=some 4) (v:=?_) (a':=?_) #[true,true,true,true,true,true,true,true,true,true,true,true] rfl rfl (any_of HT_.out (by kernel_rfl)) (fun _ _ _ h=>h) (Or.inl ⟨by rfl,?_⟩) ?_ ?_
        rotate_left
        ·intro w'
         go_simp
         with_reducible rfl
        rotate_left
        ·simp only [Act.put,List.setIfInBounds_toArray,List.set_cons_zero,List.set_cons_succ,i64_w,i32_w]
         rfl
        refine done_ (done_of HT_.out (by kernel_rfl)) ?_
        try go_wp2
        go_ret
        exact ⟨_,by first|rfl|(simp [errW_none,errW_some] <;> rfl)|(simp [*,errW_none,errW_some] <;> rfl),Kd.V_mono (Kd.R_V (by (with_reducible repeat first|apply Kd.R_alloc|apply Kd.R_drewN|apply Kd.R_drew);exact Kd.R_mono HO245.out (fun _ hk=>hk.1))) (fun k_ hk=>by first|exact ⟨(.inr (hk.1)),hk.2⟩|exact (.inr (hk))),by repeat (first|(with_reducible first|exact HB.out|apply qA|apply qN|apply q1_)|exact HB.out)⟩
       ·rw [if_neg c31] at H
        exact absurd H (by simp)
      ·rw [if_neg c28] at H
       exact absurd H (by simp)
     ·rw [if_neg c26] at H
      exact absurd H (by simp)
    ·rw [if_neg c25] at H
     exact absurd H (by simp)
end Go.Proofs.YtadpmgdmiaoniaaGreatDoor.Q
namespace Go.Proofs.YtadpmgdmiaoniaaGreatDoor.Q
open Go.RowKit Go.Proofs.YtadpmgdmiaoniaaGreatDoorW.PrintWords Go.Proofs.YtadpmgdmiaoniaaGreatDoorW.PrintLast Go.Proofs.YtadpmgdmiaoniaaGreatDoorW.PrintMore
attribute [local go_sem] run_field_23 run_field_24 run_field_30 run_field_31 isSome_setCell max2_int min2_int max_two min_two max_three min_three max_four min_four   -- for this text's walks alone
set_option linter.unusedVariables false
set_option linter.unusedSimpArgs false
theorem eqA70 (d:Nat) (w:World) (x0 y0:Int) (x1 y1:Int) (x2 y2:Bool) :
    (Op.equalIn (d+2) 70 (.agg #[.int .i64 x0,.int .i64 x1,.bool x2]) (.agg #[.int .i64 y0,.int .i64 y1,.bool y2])).run Tryz.prog w=.ok (x0 == y0 && (x1 == y1 && (x2 == y2))) w:=by
  refine eqA_of Tryz.underlying70 (by kernel_rfl) ?_
  refine eqf_cons (by rfl) (by go_simp;rfl) (by go_simp;rfl) (by go_simp) ?_
  refine eqf_cons (by rfl) (by go_simp;rfl) (by go_simp;rfl) (by go_simp) ?_
  exact eqf_last (by rfl) (by go_simp;rfl) (by go_simp;rfl) (by go_simp)
end Go.Proofs.YtadpmgdmiaoniaaGreatDoor.Q
namespace Go.Proofs.YtadpmgdmiaoniaaGreatDoor.Q
open Go.RowKit Go.Proofs.YtadpmgdmiaoniaaGreatDoorW.PrintWords Go.Proofs.YtadpmgdmiaoniaaGreatDoorW.PrintLast Go.Proofs.YtadpmgdmiaoniaaGreatDoorW.PrintMore
attribute [local go_sem] run_field_23 run_field_24 run_field_30 run_field_31 isSome_setCell max2_int min2_int max_two min_two max_three min_three max_four min_four   -- for this text's walks alone
set_option linter.unusedVariables false
set_option linter.unusedSimpArgs false
attribute [local go_sem high] eqA70
def spec_l2Set.l0:Nat→List ByteArray→List ByteArray→Int→Option (List ByteArray × Bool)
  | 0,_,_,_=>none
  | k+1,x0,x4,x5=>if x5<(x0.length:Int) then (if 0≤x5 then ((spec_l2Word.f k (rdOf ByteArray.empty x0 x5)).bind fun t250=>(if t250=true then ((spec_l2Put.f k x4 (rdOf ByteArray.empty x0 x5)).bind fun t252=>(spec_l2Set.l0 k x0 t252 (wrap64 (x5+1)))) else (some ((([]:List ByteArray)),false)))) else (none)) else (some (x4,decide ((x4.length:Int)≤40)))
def spec_l2Set.f (k:Nat) (l0:List ByteArray):Option (List ByteArray × Bool):=spec_l2Set.l0 k l0 (([]:List ByteArray)) 0
set_option maxHeartbeats 8000000 in
set_option maxRecDepth 100000 in
theorem spec_l2Set.calls (k:Nat) (A0:Option Addr) (c0:Nat) (l0:List ByteArray) (r1:List ByteArray) (r2:Bool) (w:World) (hr0:Kd.C Kd.string w A0 l0.length l0) (hc0:l0.length≤c0) (h:spec_l2Set.f k l0=some (r1,r2)) :
  Calls Tryz.prog 53 #[.slice A0 l0.length c0] w fun e w'=>∃ v0_:Value,e=.returned (.tuple #[v0_,.bool r2])∧Kd.V Kd.string 9 w' w.heap.size (fun k_=>(w.heap.size≤k_)) v0_ r1∧Below w.heap.size w w':=by
 have HR0:=Zz.mk hr0
 have HC0:=Zz.mk hc0
 clear hr0 hc0
 have HB:=Zz.mk (Below.refl w.heap.size w)
 have H:(spec_l2Set.l0 k l0 (([]:List ByteArray)) 0)=some (r1,r2):=h
 clear h
 obtain ⟨y246,hy246⟩:∃ y_:List ByteArray,y_=(([]:List ByteArray)):=⟨_,rfl⟩
 replace H:(spec_l2Set.l0 k l0 y246 0)=some (r1,r2):=by first|(rw [hy246];with_reducible exact H)|(have H2_:=(Option.bind_some _ _).symm.trans H;rw [hy246];with_reducible exact H2_)|(have H2_:=(Option.bind_some _ _).symm.trans H;with_reducible exact H2_)|with_reducible exact H|(rw [hy246];exact H)|exact H
 have Ny246:=Zz.mk hy246
 clear hy246
 have H':=Zz.mk H
 clear H
 go_enter Tryz.func53,Tryz.ntmps53
 go_wp2_with (first|((with_reducible refine gate_dst (N:=6) rfl ?_);refine Kd.R_lit Kd.string _ 9 ?hg (N:=6) ?hd (xs:=([]:List ByteArray)) (inner:=[]) (ok:=fun _=>True) (okp:=fun _=>True) ?hr ?hp (fun _ hk=>hk) trivial (Below.refl _ _) (Nat.le_refl _) (by simp) ?_;(case hd=>rfl);(case hg=>rfl);(case hr=>first|(go_simp;done)|(go_simp;rfl));(case hp=>exact (Reps.none _ _));intro v247 w2 ho3 hb hg_ hnew_;clear hg_ hnew_;(first|rw [← Ny246.out] at ho3|(simp only [Int.reduceToNat] at ho3;rw [← Ny246.out] at ho3));have n0_:=Zz.mk (Kd.R_lower (Kd.R_newM (M:=fun k_=>(w.heap.size≤k_)) ho3 (qZ (by repeat (first|(with_reducible first|exact HB.out|apply qA|apply qN|apply q1_)|exact HB.out))) (fun k_ h_=>h_)) (qZ (by repeat (first|(with_reducible first|exact HB.out|apply qA|apply qN|apply q1_)|exact HB.out))));have n1_:=Zz.mk (qP (by repeat (first|(with_reducible first|exact HB.out|apply qA|apply qN|apply q1_)|exact HB.out)) hb);clear HB;have HO248:=n0_;have HB:=n1_;clear n0_ n1_;clear hb ho3))
 go_loopg [4,5] k (fun kq v4 v5 w'=>∃ (x4_1:List ByteArray) (x5_1:Int),v5=.int .i64 x5_1∧Zz (spec_l2Set.l0 kq l0 x4_1 x5_1=some (r1,r2))∧Zz (kq≤k)∧Zz (Kd.V Kd.string 9 w' w.heap.size (fun k_=>(w.heap.size≤k_)) v4 x4_1)∧Zz (Below w.heap.size w w'))
 case atStart=>exact ⟨(y246),(0),(by first|rfl|(simp;done)|(simp [*];done)),H',⟨Nat.le_refl _⟩,⟨Kd.R_V (by (with_reducible repeat first|apply Kd.R_alloc|apply Kd.R_drewN|apply Kd.R_drew);exact Kd.R_mono HO248.out (fun _ hk=>hk.1))⟩,⟨by repeat (first|(with_reducible first|exact HB.out|apply qA|apply qN|apply q1_)|exact HB.out)⟩⟩
 case round =>
  clear H'
  try clear p2
  obtain ⟨x4_1,x5_1,rfl,HA,HK1,HO_4,HB⟩:=hrel
  cases gk with
  | zero=>exact absurd HA.out (by simp [spec_l2Set.l0])
  | succ k1 =>
   have H:=HA.out
   clear HA
   simp only [spec_l2Set.l0] at H
   by_cases c4:x5_1<(l0.length:Int)
   ·rw [if_pos c4] at H
    have c4b0:decide (x5_1<(l0.length:Int))=true:=decide_eq_true c4
    clear c4
    by_cases c5:0≤x5_1
    ·rw [if_pos c5] at H
     have c5b0:decide (0≤x5_1)=true:=decide_eq_true c5
     clear c5
     replace H:=Option.bind_eq_some_iff.mp H
     obtain ⟨t250,A60,H⟩:=H
     replace H:(if t250=true then ((spec_l2Put.f k1 x4_1 (rdOf ByteArray.empty l0 x5_1)).bind fun t252=>(spec_l2Set.l0 k1 l0 t252 (wrap64 (x5_1+1)))) else (some ((([]:List ByteArray)),false)))=some (r1,r2):=H
     have A6:=Zz.mk A60
     clear A60
     by_cases c7:t250=true
     ·subst c7
      have H1:((spec_l2Put.f k1 x4_1 (rdOf ByteArray.empty l0 x5_1)).bind fun t252=>(spec_l2Set.l0 k1 l0 t252 (wrap64 (x5_1+1))))=some (r1,r2):=by rw [if_pos rfl] at H;exact H
      clear H
      have H:=H1
      clear H1
      replace H:=Option.bind_eq_some_iff.mp H
      obtain ⟨t252,A80,H⟩:=H
      replace H:(spec_l2Set.l0 k1 l0 t252 (wrap64 (x5_1+1)))=some (r1,r2):=H
      have A8:=Zz.mk A80
      clear A80
      have H':=Zz.mk H
      clear H
      have p249:0≤(x5_1:Int):=of_decide_eq_true (by first|(with_reducible assumption)|assumption)
      have q249:x5_1<(l0.length:Int):=of_decide_eq_true (by first|(with_reducible assumption)|assumption)
      obtain ⟨ad249,e249,hx249_0⟩:=Kd.at_string HR0.out x5_1 p249 q249
      cases e249
      replace hx249_0:=(HB.out.cell (World.block_lt_of_cell? w _ hx249_0)).trans hx249_0
      replace p249:=eq_true p249
      replace q249:=eq_true q249
      go_wp2_with (first|((with_reducible refine gate_callee (f:=66) rfl ?_);refine goesL_ (some 17) rfl rfl Tryz.func66 (by kernel_rfl) rfl #[.string (rdOf ByteArray.empty l0 x5_1)] rfl (by (try simp only [List.map_toArray,List.map_cons,List.map_nil]);first|done|rfl|(simp only [List.length_drop,List.length_take];rfl)) ?_;(with_reducible refine (spec_l2Word.calls k1 (rdOf ByteArray.empty l0 x5_1) true _ A6.out).mono ?_);rintro e w' ⟨rfl,⟨nd,rfl⟩⟩;refine ⟨_,rfl,?_⟩;have p251:0≤(x5_1:Int):=of_decide_eq_true (by first|(with_reducible assumption)|assumption);have q251:x5_1<(l0.length:Int):=of_decide_eq_true (by first|(with_reducible assumption)|assumption);obtain ⟨ad251,e251,hx251_0⟩:=Kd.at_string HR0.out x5_1 p251 q251;obtain rfl:ad249=ad251:=(by injection e251);replace hx251_0:=(HB.out.cell (World.block_lt_of_cell? w _ hx251_0)).trans hx251_0;replace p251:=eq_true p251;replace q251:=eq_true q251;obtain ⟨Ao9,co9,eo9⟩:=Kd.V_slice HO_4.out;subst eo9)|((with_reducible refine gate_callee (f:=67) rfl ?_);refine goesL_ (some 25) rfl rfl Tryz.func67 (by kernel_rfl) rfl #[.slice Ao9 x4_1.length co9,.string (rdOf ByteArray.empty l0 x5_1)] rfl (by (try simp only [List.map_toArray,List.map_cons,List.map_nil]);first|done|rfl|(simp only [List.length_drop,List.length_take];rfl)) ?_;(with_reducible refine (spec_l2Put.calls k1 (fun k_=>(w.heap.size≤k_)) _ _ x4_1 (rdOf ByteArray.empty l0 x5_1) t252 _ ?side1 A8.out).mono ?_);(case side1=>exact HO_4.out);rintro e w10 ⟨v253,rfl,ho0,hb⟩;refine ⟨_,rfl,?_⟩;have n0_:=Zz.mk (Kd.V_below (by (with_reducible repeat (first|apply Kd.V_alloc|apply Kd.V_drewN|apply Kd.V_drew));exact HO_4.out) hb);have n1_:=Zz.mk (Kd.V_lower (Kd.V_mono (ok':=fun k_=>(w.heap.size≤k_)) ho0 (fun k_ hk_=>Or.elim hk_ (fun hs_=>hs_) (fun hn_=>(Nat.le_trans (qZ (by repeat (first|(with_reducible first|exact HB.out|apply qA|apply qN|apply q1_)|exact HB.out))) hn_)))) (qZ (by repeat (first|(with_reducible first|exact HB.out|apply qA|apply qN|apply q1_)|exact HB.out))));have n2_:=Zz.mk (qP (by repeat (first|(with_reducible first|exact HB.out|apply qA|apply qN|apply q1_)|exact HB.out)) hb);clear HO_4;clear HB;have HO_4:=n0_;have HO254:=n1_;have HB:=n2_;clear n0_ n1_ n2_;(try clear hb);(try clear hb2);(try clear hk);(try clear hi);(try clear ho0)))
      go_roundg k1
      case measure=>have:=HK1.out;omega
      case rel=>exact ⟨(t252),(wrap64 (x5_1+1)),(by first|rfl|(simp;done)|(simp [*];done)),H',⟨by have:=HK1.out;omega⟩,⟨by (with_reducible repeat (first|apply Kd.V_alloc|apply Kd.V_drewN|apply Kd.V_drew));exact HO254.out⟩,⟨by repeat (first|(with_reducible first|exact HB.out|apply qA|apply qN|apply q1_)|exact HB.out)⟩⟩
     ·replace c7:=Bool.eq_false_iff.mpr c7
      subst c7
      have H1:(some ((([]:List ByteArray)),false))=some (r1,r2):=by rw [if_neg (show ¬ (false=true) by decide)] at H;exact H
      clear H
      have H:=H1
      clear H1
      obtain ⟨y255,hy255⟩:∃ y_:List ByteArray,y_=(([]:List ByteArray)):=⟨_,rfl⟩
      replace H:(some (y255,false))=some (r1,r2):=by first|(rw [hy255];with_reducible exact H)|(have H2_:=(Option.bind_some _ _).symm.trans H;rw [hy255];with_reducible exact H2_)|(have H2_:=(Option.bind_some _ _).symm.trans H;with_reducible exact H2_)|with_reducible exact H|(rw [hy255];exact H)|exact H
      have Ny255:=Zz.mk hy255
      clear hy255
      simp only [Option.some.injEq,Prod.mk.injEq] at H
      obtain ⟨rfl,rfl⟩:=H
      have p249:0≤(x5_1:Int):=of_decide_eq_true (by first|(with_reducible assumption)|assumption)
      have q249:x5_1<(l0.length:Int):=of_decide_eq_true (by first|(with_reducible assumption)|assumption)
      obtain ⟨ad249,e249,hx249_0⟩:=Kd.at_string HR0.out x5_1 p249 q249
      cases e249
      replace hx249_0:=(HB.out.cell (World.block_lt_of_cell? w _ hx249_0)).trans hx249_0
      replace p249:=eq_true p249
      replace q249:=eq_true q249
      go_wp2_with (first|((with_reducible refine gate_callee (f:=66) rfl ?_);refine goesL_ (some 17) rfl rfl Tryz.func66 (by kernel_rfl) rfl #[.string (rdOf ByteArray.empty l0 x5_1)] rfl (by (try simp only [List.map_toArray,List.map_cons,List.map_nil]);first|done|rfl|(simp only [List.length_drop,List.length_take];rfl)) ?_;(with_reducible refine (spec_l2Word.calls k1 (rdOf ByteArray.empty l0 x5_1) false _ A6.out).mono ?_);rintro e w' ⟨rfl,⟨nd,rfl⟩⟩;refine ⟨_,rfl,?_⟩)|((with_reducible refine gate_dst (N:=19) rfl ?_);refine Kd.R_lit Kd.string _ 9 ?hg (N:=19) ?hd (xs:=([]:List ByteArray)) (inner:=[]) (ok:=fun _=>True) (okp:=fun _=>True) ?hr ?hp (fun _ hk=>hk) trivial (Below.refl _ _) (Nat.le_refl _) (by simp) ?_;(case hd=>rfl);(case hg=>rfl);(case hr=>first|(go_simp;done)|(go_simp;rfl));(case hp=>exact (Reps.none _ _));intro v256 w11 ho12 hb hg_ hnew_;clear hg_ hnew_;(first|rw [← Ny255.out] at ho12|(simp only [Int.reduceToNat] at ho12;rw [← Ny255.out] at ho12));have n0_:=Zz.mk (Kd.V_elder' (by (with_reducible repeat (first|apply Kd.V_alloc|apply Kd.V_drewN|apply Kd.V_drew));exact HO_4.out) (Kd.R_base ho12) hb);have n1_:=Zz.mk (Kd.R_lower (Kd.R_newM (M:=fun k_=>(w.heap.size≤k_)) ho12 (qZ (by repeat (first|(with_reducible first|exact HB.out|apply qA|apply qN|apply q1_)|exact HB.out))) (fun k_ h_=>h_)) (qZ (by repeat (first|(with_reducible first|exact HB.out|apply qA|apply qN|apply q1_)|exact HB.out))));have n2_:=Zz.mk (qP (by repeat (first|(with_reducible first|exact HB.out|apply qA|apply qN|apply q1_)|exact HB.out)) hb);clear HO_4;clear HB;have HO_4:=n0_;have HO257:=n1_;have HB:=n2_;clear n0_ n1_ n2_;clear hb ho12))
      go_ret2
      exact ⟨_,by first|rfl|(simp [errW_none,errW_some] <;> rfl)|(simp [*,errW_none,errW_some] <;> rfl),Kd.R_V (by (with_reducible repeat first|apply Kd.R_alloc|apply Kd.R_drewN|apply Kd.R_drew);exact Kd.R_mono HO257.out (fun _ hk=>hk.1)),by repeat (first|(with_reducible first|exact HB.out|apply qA|apply qN|apply q1_)|exact HB.out)⟩
    ·rw [if_neg c5] at H
     exact absurd H (by simp)
   ·rw [if_neg c4] at H
    have c4b0:decide (x5_1<(l0.length:Int))=false:=decide_eq_false c4
    clear c4
    simp only [Option.some.injEq,Prod.mk.injEq] at H
    obtain ⟨rfl,rfl⟩:=H
    obtain ⟨Ao13,co13,eo13⟩:=Kd.V_slice HO_4.out
    subst eo13
    go_wp2
    go_ret2
    exact ⟨_,by first|rfl|(simp [errW_none,errW_some] <;> rfl)|(simp [*,errW_none,errW_some] <;> rfl),by (with_reducible repeat (first|apply Kd.V_alloc|apply Kd.V_drewN|apply Kd.V_drew));exact HO_4.out,by repeat (first|(with_reducible first|exact HB.out|apply qA|apply qN|apply q1_)|exact HB.out)⟩
mutual
def spec_l2Same.l0:Nat→Int→List (S70)→List (S70)→Option (Bool)
 | 0,_,_,_=>none
 | k+1,x5,x259000,x260000=>if x5<(x259000.length:Int) then (spec_l2Same.j1 k x5 (decide (x5<(x260000.length:Int))) x259000 x260000) else (spec_l2Same.j1 k x5 false x259000 x260000)
def spec_l2Same.j1:Nat→Int→Bool→List (S70)→List (S70)→Option (Bool)
 | 0,_,_,_,_=>none
 | k+1,x5,x17,x259000,x260000=>if x17=true then (if 0≤x5 then (if x5<(x259000.length:Int) then (if x5<(x260000.length:Int) then (if (!(((rd_T70 x259000 x5).f0) == ((rd_T70 x260000 x5).f0)) || (!(((rd_T70 x259000 x5).f1) == ((rd_T70 x260000 x5).f1)) || (!(((rd_T70 x259000 x5).f2) == ((rd_T70 x260000 x5).f2)))))=true then (some false) else (spec_l2Same.l0 k (wrap64 (x5+1)) x259000 x260000)) else (none)) else (none)) else (none)) else (some ((x259000.length:Int) == (x260000.length:Int)))
end
def spec_l2Same.f (k:Nat) (l0_0:List (S70)) (l1_0:List (S70)):Option (Bool):=spec_l2Same.l0 k 0 l0_0 l1_0
set_option maxHeartbeats 8000000 in
set_option maxRecDepth 100000 in
theorem spec_l2Same.calls (k:Nat) (A0_0:Option Addr) (c0_0:Nat) (l0_0:List (S70)) (A1_0:Option Addr) (c1_0:Nat) (l1_0:List (S70)) (r:Bool) (w:World) (hr0_0:Kd.C k70 w A0_0 l0_0.length l0_0) (hc0_0:l0_0.length≤c0_0) (hr1_0:Kd.C k70 w A1_0 l1_0.length l1_0) (hc1_0:l1_0.length≤c1_0) (h:spec_l2Same.f k l0_0 l1_0=some r) :
  Calls Tryz.prog 54 #[.agg #[.slice A0_0 l0_0.length c0_0],.agg #[.slice A1_0 l1_0.length c1_0]] w fun e w'=>e=.returned (.bool r)∧Below w.heap.size w w':=by
 have hu31:=Tryz.underlying31
 have hu70:=Tryz.underlying70
 have HR0_0:=Zz.mk hr0_0
 have HC0_0:=Zz.mk hc0_0
 clear hr0_0 hc0_0
 have HR1_0:=Zz.mk hr1_0
 have HC1_0:=Zz.mk hc1_0
 clear hr1_0 hc1_0
 have HB:=Zz.mk (Below.refl w.heap.size w)
 have H:(spec_l2Same.l0 k 0 l0_0 l1_0)=some r:=h
 clear h
 have H':=Zz.mk H
 clear H
 go_enter Tryz.func54,Tryz.ntmps54
 go_wp2_with (first|((with_reducible refine gate_dst (N:=2) rfl ?_);(try (refine gate_guard (by rfl) ?_;dsimp only));refine box_event ?hg (N:=2) ?hd (cs:=#[.slice A0_0 l0_0.length c0_0]) (t:=31) ?hr ?_;(case hd=>rfl);(case hg=>rfl);(case hr=>first|(go_simp;done)|(go_simp;rfl));intro gb258 hg w3 hbox hb;have n0_:=Zz.mk (qP (by repeat (first|(with_reducible first|exact HB.out|apply qA|apply qN|apply q1_)|exact HB.out)) hb);have n1_:=Zz.mk (hbox);have n2_:=Zz.mk ((by rw [hg];exact (qZ (by repeat (first|(with_reducible first|exact HB.out|apply qA|apply qN|apply q1_)|exact HB.out))):w.heap.size≤gb258));have n3_:=Zz.mk ((by rw [hg];exact (qZ (by repeat (first|(with_reducible first|exact HB.out|apply qA|apply qN|apply q1_)|exact HB.out))):w.heap.size≤gb258));clear HB;have HB:=n0_;have BK258:=n1_;have GW258:=n2_;have GE258:=n3_;clear n0_ n1_ n2_ n3_;clear hb hbox hg)|((with_reducible refine gate_dst (N:=3) rfl ?_);(try (refine gate_guard (by rfl) ?_;dsimp only));refine box_event ?hg (N:=3) ?hd (cs:=#[.slice A1_0 l1_0.length c1_0]) (t:=31) ?hr ?_;(case hd=>rfl);(case hg=>rfl);(case hr=>first|(go_simp;done)|(go_simp;rfl));intro gb259 hg w4 hbox hb;have n0_:=Zz.mk (bB (g:=gb258) (o:=.cells #[.slice A0_0 l0_0.length c0_0] 31 (0,0)) (by (with_reducible repeat first|apply bN|apply bD|apply bA);exact BK258.out) hb);have n1_:=Zz.mk (qP (by repeat (first|(with_reducible first|exact HB.out|apply qA|apply qN|apply q1_|refine qS ?_ GE258.out)|exact HB.out)) hb);have n2_:=Zz.mk (hbox);have n3_:=Zz.mk ((by rw [hg];exact (qZ (by repeat (first|(with_reducible first|exact HB.out|apply qA|apply qN|apply q1_|refine qS ?_ GE258.out)|exact HB.out))):w.heap.size≤gb259));have n4_:=Zz.mk ((by rw [hg];exact (qZ (by repeat (first|(with_reducible first|exact HB.out|apply qA|apply qN|apply q1_|refine qS ?_ GE258.out)|exact HB.out))):w.heap.size≤gb259));have n5_:=Zz.mk ((by rw [hg];exact Nat.ne_of_lt (blk_lt (g:=gb258) (o:=.cells #[.slice A0_0 l0_0.length c0_0] 31 (0,0)) (by (with_reducible repeat first|apply bN|apply bD|apply bA);exact BK258.out)):gb258 ≠ gb259));have n6_:=Zz.mk ((by rw [hg];exact Nat.ne_of_gt (blk_lt (g:=gb258) (o:=.cells #[.slice A0_0 l0_0.length c0_0] 31 (0,0)) (by (with_reducible repeat first|apply bN|apply bD|apply bA);exact BK258.out)):gb259 ≠ gb258));clear BK258;clear HB;have BK258:=n0_;have HB:=n1_;have BK259:=n2_;have GW259:=n3_;have GE259:=n4_;have NB258_259:=n5_;have NB259_258:=n6_;clear n0_ n1_ n2_ n3_ n4_ n5_ n6_;clear hb hbox hg))
 repeat (go_quiet (first|((with_reducible refine gate_dst (N:=2) rfl ?_);(try (refine gate_guard (by rfl) ?_;dsimp only));refine box_event ?hg (N:=2) ?hd (cs:=#[.slice A0_0 l0_0.length c0_0]) (t:=31) ?hr ?_;(case hd=>rfl);(case hg=>rfl);(case hr=>first|(go_simp;done)|(go_simp;rfl));intro gb258 hg w3 hbox hb;have n0_:=Zz.mk (qP (by repeat (first|(with_reducible first|exact HB.out|apply qA|apply qN|apply q1_)|exact HB.out)) hb);have n1_:=Zz.mk (hbox);have n2_:=Zz.mk ((by rw [hg];exact (qZ (by repeat (first|(with_reducible first|exact HB.out|apply qA|apply qN|apply q1_)|exact HB.out))):w.heap.size≤gb258));have n3_:=Zz.mk ((by rw [hg];exact (qZ (by repeat (first|(with_reducible first|exact HB.out|apply qA|apply qN|apply q1_)|exact HB.out))):w.heap.size≤gb258));clear HB;have HB:=n0_;have BK258:=n1_;have GW258:=n2_;have GE258:=n3_;clear n0_ n1_ n2_ n3_;clear hb hbox hg)|((with_reducible refine gate_dst (N:=3) rfl ?_);(try (refine gate_guard (by rfl) ?_;dsimp only));refine box_event ?hg (N:=3) ?hd (cs:=#[.slice A1_0 l1_0.length c1_0]) (t:=31) ?hr ?_;(case hd=>rfl);(case hg=>rfl);(case hr=>first|(go_simp;done)|(go_simp;rfl));intro gb259 hg w4 hbox hb;have n0_:=Zz.mk (bB (g:=gb258) (o:=.cells #[.slice A0_0 l0_0.length c0_0] 31 (0,0)) (by (with_reducible repeat first|apply bN|apply bD|apply bA);exact BK258.out) hb);have n1_:=Zz.mk (qP (by repeat (first|(with_reducible first|exact HB.out|apply qA|apply qN|apply q1_|refine qS ?_ GE258.out)|exact HB.out)) hb);have n2_:=Zz.mk (hbox);have n3_:=Zz.mk ((by rw [hg];exact (qZ (by repeat (first|(with_reducible first|exact HB.out|apply qA|apply qN|apply q1_|refine qS ?_ GE258.out)|exact HB.out))):w.heap.size≤gb259));have n4_:=Zz.mk ((by rw [hg];exact (qZ (by repeat (first|(with_reducible first|exact HB.out|apply qA|apply qN|apply q1_|refine qS ?_ GE258.out)|exact HB.out))):w.heap.size≤gb259));have n5_:=Zz.mk ((by rw [hg];exact Nat.ne_of_lt (blk_lt (g:=gb258) (o:=.cells #[.slice A0_0 l0_0.length c0_0] 31 (0,0)) (by (with_reducible repeat first|apply bN|apply bD|apply bA);exact BK258.out)):gb258 ≠ gb259));have n6_:=Zz.mk ((by rw [hg];exact Nat.ne_of_gt (blk_lt (g:=gb258) (o:=.cells #[.slice A0_0 l0_0.length c0_0] 31 (0,0)) (by (with_reducible repeat first|apply bN|apply bD|apply bA);exact BK258.out)):gb259 ≠ gb258));clear BK258;clear HB;have BK258:=n0_;have HB:=n1_;have BK259:=n2_;have GW259:=n3_;have GE259:=n4_;have NB258_259:=n5_;have NB259_258:=n6_;clear n0_ n1_ n2_ n3_ n4_ n5_ n6_;clear hb hbox hg));try go_wp2_with (first|((with_reducible refine gate_dst (N:=2) rfl ?_);(try (refine gate_guard (by rfl) ?_;dsimp only));refine box_event ?hg (N:=2) ?hd (cs:=#[.slice A0_0 l0_0.length c0_0]) (t:=31) ?hr ?_;(case hd=>rfl);(case hg=>rfl);(case hr=>first|(go_simp;done)|(go_simp;rfl));intro gb258 hg w3 hbox hb;have n0_:=Zz.mk (qP (by repeat (first|(with_reducible first|exact HB.out|apply qA|apply qN|apply q1_)|exact HB.out)) hb);have n1_:=Zz.mk (hbox);have n2_:=Zz.mk ((by rw [hg];exact (qZ (by repeat (first|(with_reducible first|exact HB.out|apply qA|apply qN|apply q1_)|exact HB.out))):w.heap.size≤gb258));have n3_:=Zz.mk ((by rw [hg];exact (qZ (by repeat (first|(with_reducible first|exact HB.out|apply qA|apply qN|apply q1_)|exact HB.out))):w.heap.size≤gb258));clear HB;have HB:=n0_;have BK258:=n1_;have GW258:=n2_;have GE258:=n3_;clear n0_ n1_ n2_ n3_;clear hb hbox hg)|((with_reducible refine gate_dst (N:=3) rfl ?_);(try (refine gate_guard (by rfl) ?_;dsimp only));refine box_event ?hg (N:=3) ?hd (cs:=#[.slice A1_0 l1_0.length c1_0]) (t:=31) ?hr ?_;(case hd=>rfl);(case hg=>rfl);(case hr=>first|(go_simp;done)|(go_simp;rfl));intro gb259 hg w4 hbox hb;have n0_:=Zz.mk (bB (g:=gb258) (o:=.cells #[.slice A0_0 l0_0.length c0_0] 31 (0,0)) (by (with_reducible repeat first|apply bN|apply bD|apply bA);exact BK258.out) hb);have n1_:=Zz.mk (qP (by repeat (first|(with_reducible first|exact HB.out|apply qA|apply qN|apply q1_|refine qS ?_ GE258.out)|exact HB.out)) hb);have n2_:=Zz.mk (hbox);have n3_:=Zz.mk ((by rw [hg];exact (qZ (by repeat (first|(with_reducible first|exact HB.out|apply qA|apply qN|apply q1_|refine qS ?_ GE258.out)|exact HB.out))):w.heap.size≤gb259));have n4_:=Zz.mk ((by rw [hg];exact (qZ (by repeat (first|(with_reducible first|exact HB.out|apply qA|apply qN|apply q1_|refine qS ?_ GE258.out)|exact HB.out))):w.heap.size≤gb259));have n5_:=Zz.mk ((by rw [hg];exact Nat.ne_of_lt (blk_lt (g:=gb258) (o:=.cells #[.slice A0_0 l0_0.length c0_0] 31 (0,0)) (by (with_reducible repeat first|apply bN|apply bD|apply bA);exact BK258.out)):gb258 ≠ gb259));have n6_:=Zz.mk ((by rw [hg];exact Nat.ne_of_gt (blk_lt (g:=gb258) (o:=.cells #[.slice A0_0 l0_0.length c0_0] 31 (0,0)) (by (with_reducible repeat first|apply bN|apply bD|apply bA);exact BK258.out)):gb259 ≠ gb258));clear BK258;clear HB;have BK258:=n0_;have HB:=n1_;have BK259:=n2_;have GW259:=n3_;have GE259:=n4_;have NB258_259:=n5_;have NB259_258:=n6_;clear n0_ n1_ n2_ n3_ n4_ n5_ n6_;clear hb hbox hg)))
 go_loopg [5] k (fun kq v5 w'=>∃ (x5_1:Int),v5=.int .i64 x5_1∧Zz (spec_l2Same.l0 kq x5_1 l0_0 l1_0=some r)∧Zz (kq≤k)∧Zz (w'.heap[gb258]?=some (.cells #[(.slice A0_0 l0_0.length c0_0)] 31 (0,0)))∧Zz (w'.heap[gb259]?=some (.cells #[(.slice A1_0 l1_0.length c1_0)] 31 (0,0)))∧Zz (Below w.heap.size w w'))
 case atStart=>exact ⟨(0),(by first|rfl|(simp;done)|(simp [*];done)),H',⟨Nat.le_refl _⟩,⟨by (with_reducible repeat first|apply bN|apply bD|apply bA);exact BK258.out⟩,⟨by (with_reducible repeat first|apply bN|apply bD|apply bA);exact BK259.out⟩,⟨by repeat (first|(with_reducible first|exact HB.out|apply qA|apply qN|apply q1_|refine qS ?_ GE258.out|refine qS ?_ GE259.out)|exact HB.out)⟩⟩
 case round =>
  clear H'
  try clear c1
  try clear p2
  obtain ⟨x5_1,rfl,HA,HK1,BK258,BK259,HB⟩:=hrel
  cases gk with
  | zero=>exact absurd HA.out (by simp [spec_l2Same.l0])
  | succ k1 =>
   have H:=HA.out
   clear HA
   simp only [spec_l2Same.l0] at H
   have HC5:=Zz.mk H
   clear H
   go_upto_region 2 with (fail)
   repeat (go_quiet (fail);go_upto_region 2 with (fail))
   go_cut [17] (fun v17 wc=>∃ (kq:Nat) (x17_4:Bool),v17=.bool x17_4∧Zz (spec_l2Same.j1 kq x5_1 x17_4 l0_0 l1_0=some r)∧Zz (kq≤k1)∧Zz (wc.heap[gb258]?=some (.cells #[(.slice A0_0 l0_0.length c0_0)] 31 (0,0)))∧Zz (wc.heap[gb259]?=some (.cells #[(.slice A1_0 l1_0.length c1_0)] 31 (0,0)))∧Zz (Below w.heap.size w wc))
   case first =>
    have H:=HC5.out
    clear HC5
    by_cases c6:x5_1<(l0_0.length:Int)
    ·rw [if_pos c6] at H
     have c6b0:decide (x5_1<(l0_0.length:Int))=true:=decide_eq_true c6
     clear c6
     (first|rw [c6b0]|(simp only [i64_w,i32_w];rw [c6b0])|skip)
     have H':=Zz.mk H
     clear H
     have hnb7:=NB258_259.out
     have hnc7:=NB259_258.out
     have hcz8_0:wr.cell? ⟨gb258,0,none⟩=some (.slice A0_0 l0_0.length c0_0):=(bC BK258.out 0).trans rfl
     have hfz8_0:=bF BK258.out 0
     have hcz9_0:wr.cell? ⟨gb259,0,none⟩=some (.slice A1_0 l1_0.length c1_0):=(bC BK259.out 0).trans rfl
     have hfz9_0:=bF BK259.out 0
     go_wp2
     repeat (go_quiet (fail);try go_wp2)
     go_meet
     case rel=>exact ⟨_,(decide (x5_1<(l1_0.length:Int))),(by first|rfl|(simp;done)|(simp [*];done)),H',⟨by have:=HK1.out;first|omega|exact Nat.le_refl _⟩,⟨by (with_reducible repeat first|apply bN|apply bD|apply bA);exact BK258.out⟩,⟨by (with_reducible repeat first|apply bN|apply bD|apply bA);exact BK259.out⟩,⟨by repeat (first|(with_reducible first|exact HB.out|apply qA|apply qN|apply q1_|refine qS ?_ GE258.out|refine qS ?_ GE259.out)|exact HB.out)⟩⟩
    ·rw [if_neg c6] at H
     have c6b0:decide (x5_1<(l0_0.length:Int))=false:=decide_eq_false c6
     clear c6
     (first|rw [c6b0]|(simp only [i64_w,i32_w];rw [c6b0])|skip)
     have H':=Zz.mk H
     clear H
     have hnb10:=NB258_259.out
     have hnc10:=NB259_258.out
     have hcz11_0:wr.cell? ⟨gb258,0,none⟩=some (.slice A0_0 l0_0.length c0_0):=(bC BK258.out 0).trans rfl
     have hfz11_0:=bF BK258.out 0
     go_wp2
     repeat (go_quiet (fail);try go_wp2)
     go_meet
     case rel=>exact ⟨_,(false),(by first|rfl|(simp;done)|(simp [*];done)),H',⟨by have:=HK1.out;first|omega|exact Nat.le_refl _⟩,⟨by (with_reducible repeat first|apply bN|apply bD|apply bA);exact BK258.out⟩,⟨by (with_reducible repeat first|apply bN|apply bD|apply bA);exact BK259.out⟩,⟨by repeat (first|(with_reducible first|exact HB.out|apply qA|apply qN|apply q1_|refine qS ?_ GE258.out|refine qS ?_ GE259.out)|exact HB.out)⟩⟩
   case rest =>
    clear HC5
    try clear c1
    try clear p2
    try clear c5
    try clear c6
    try clear c6b0
    try clear c7
    try clear c10
    try clear hcz11_0
    try clear hcz8_0
    try clear hcz9_0
    try clear hfz11_0
    try clear hfz8_0
    try clear hfz9_0
    try clear p2
    obtain ⟨kq,x17_4,rfl,HA,HJ4,BK258,BK259,HB⟩:=hcut
    cases kq with
    | zero=>exact absurd HA.out (by simp [spec_l2Same.j1])
    | succ kj4 =>
     have H:=HA.out
     clear HA
     simp only [spec_l2Same.j1] at H
     by_cases c12:x17_4=true
     ·subst c12
      have H1:(if 0≤x5_1 then (if x5_1<(l0_0.length:Int) then (if x5_1<(l1_0.length:Int) then (if (!(((rd_T70 l0_0 x5_1).f0) == ((rd_T70 l1_0 x5_1).f0)) || (!(((rd_T70 l0_0 x5_1).f1) == ((rd_T70 l1_0 x5_1).f1)) || (!(((rd_T70 l0_0 x5_1).f2) == ((rd_T70 l1_0 x5_1).f2)))))=true then (some false) else (spec_l2Same.l0 kj4 (wrap64 (x5_1+1)) l0_0 l1_0)) else (none)) else (none)) else (none))=some r:=by rw [if_pos rfl] at H;exact H
      clear H
      have H:=H1
      clear H1
      by_cases c13:0≤x5_1
      ·rw [if_pos c13] at H
       have c13b0:decide (0≤x5_1)=true:=decide_eq_true c13
       clear c13
       by_cases c14:x5_1<(l0_0.length:Int)
       ·rw [if_pos c14] at H
        have c14b0:decide (x5_1<(l0_0.length:Int))=true:=decide_eq_true c14
        clear c14
        by_cases c15:x5_1<(l1_0.length:Int)
        ·rw [if_pos c15] at H
         have c15b0:decide (x5_1<(l1_0.length:Int))=true:=decide_eq_true c15
         clear c15
         by_cases c16:(!(((rd_T70 l0_0 x5_1).f0) == ((rd_T70 l1_0 x5_1).f0)) || (!(((rd_T70 l0_0 x5_1).f1) == ((rd_T70 l1_0 x5_1).f1)) || (!(((rd_T70 l0_0 x5_1).f2) == ((rd_T70 l1_0 x5_1).f2)))))=true
         ·rw [if_pos c16] at H
          have c16b0:(!(((rd_T70 l0_0 x5_1).f0) == ((rd_T70 l1_0 x5_1).f0)) || (!(((rd_T70 l0_0 x5_1).f1) == ((rd_T70 l1_0 x5_1).f1)) || (!(((rd_T70 l0_0 x5_1).f2) == ((rd_T70 l1_0 x5_1).f2)))))=true:=c16
          clear c16
          obtain rfl:=Option.some.inj H
          have hnb17:=NB258_259.out
          have hnc17:=NB259_258.out
          have hcz18_0:wc.cell? ⟨gb258,0,none⟩=some (.slice A0_0 l0_0.length c0_0):=(bC BK258.out 0).trans rfl
          have hfz18_0:=bF BK258.out 0
          have p260:0≤(x5_1:Int):=of_decide_eq_true (by first|(with_reducible assumption)|assumption)
          have q260:x5_1<(l0_0.length:Int):=of_decide_eq_true (by first|(with_reducible assumption)|assumption)
          obtain ⟨ad260,e260,hx260_0,hx260_1,hx260_2⟩:=at_T70 HR0_0.out x5_1 p260 q260
          cases e260
          replace hx260_0:=(HB.out.cell (World.block_lt_of_cell? w _ hx260_0)).trans hx260_0
          replace hx260_1:=(HB.out.cell (World.block_lt_of_cell? w _ hx260_1)).trans hx260_1
          replace hx260_2:=(HB.out.cell (World.block_lt_of_cell? w _ hx260_2)).trans hx260_2
          replace p260:=eq_true p260
          replace q260:=eq_true q260
          have hcz19_0:wc.cell? ⟨gb259,0,none⟩=some (.slice A1_0 l1_0.length c1_0):=(bC BK259.out 0).trans rfl
          have hfz19_0:=bF BK259.out 0
          have p261:0≤(x5_1:Int):=of_decide_eq_true (by first|(with_reducible assumption)|assumption)
          have q261:x5_1<(l1_0.length:Int):=of_decide_eq_true (by first|(with_reducible assumption)|assumption)
          obtain ⟨ad261,e261,hx261_0,hx261_1,hx261_2⟩:=at_T70 HR1_0.out x5_1 p261 q261
          cases e261
          replace hx261_0:=(HB.out.cell (World.block_lt_of_cell? w _ hx261_0)).trans hx261_0
          replace hx261_1:=(HB.out.cell (World.block_lt_of_cell? w _ hx261_1)).trans hx261_1
          replace hx261_2:=(HB.out.cell (World.block_lt_of_cell? w _ hx261_2)).trans hx261_2
          replace p261:=eq_true p261
          replace q261:=eq_true q261
          go_wp2
          repeat (go_quiet (fail);try go_wp2)
          go_ret
          exact ⟨by first|rfl|(simp [errW_none,errW_some] <;> rfl)|(simp [*,errW_none,errW_some] <;> rfl),by repeat (first|(with_reducible first|exact HB.out|apply qA|apply qN|apply q1_|refine qS ?_ GE258.out|refine qS ?_ GE259.out)|exact HB.out)⟩
         ·rw [if_neg c16] at H
          have c16b0:(!(((rd_T70 l0_0 x5_1).f0) == ((rd_T70 l1_0 x5_1).f0)) || (!(((rd_T70 l0_0 x5_1).f1) == ((rd_T70 l1_0 x5_1).f1)) || (!(((rd_T70 l0_0 x5_1).f2) == ((rd_T70 l1_0 x5_1).f2)))))=false:=by simpa using c16
          clear c16
          have H':=Zz.mk H
          clear H
          have hnb20:=NB258_259.out
          have hnc20:=NB259_258.out
          have hcz21_0:wc.cell? ⟨gb258,0,none⟩=some (.slice A0_0 l0_0.length c0_0):=(bC BK258.out 0).trans rfl
          have hfz21_0:=bF BK258.out 0
          have p260:0≤(x5_1:Int):=of_decide_eq_true (by first|(with_reducible assumption)|assumption)
          have q260:x5_1<(l0_0.length:Int):=of_decide_eq_true (by first|(with_reducible assumption)|assumption)
          obtain ⟨ad260,e260,hx260_0,hx260_1,hx260_2⟩:=at_T70 HR0_0.out x5_1 p260 q260
          cases e260
          replace hx260_0:=(HB.out.cell (World.block_lt_of_cell? w _ hx260_0)).trans hx260_0
          replace hx260_1:=(HB.out.cell (World.block_lt_of_cell? w _ hx260_1)).trans hx260_1
          replace hx260_2:=(HB.out.cell (World.block_lt_of_cell? w _ hx260_2)).trans hx260_2
          replace p260:=eq_true p260
          replace q260:=eq_true q260
          have hcz22_0:wc.cell? ⟨gb259,0,none⟩=some (.slice A1_0 l1_0.length c1_0):=(bC BK259.out 0).trans rfl
          have hfz22_0:=bF BK259.out 0
          have p261:0≤(x5_1:Int):=of_decide_eq_true (by first|(with_reducible assumption)|assumption)
          have q261:x5_1<(l1_0.length:Int):=of_decide_eq_true (by first|(with_reducible assumption)|assumption)
          obtain ⟨ad261,e261,hx261_0,hx261_1,hx261_2⟩:=at_T70 HR1_0.out x5_1 p261 q261
          cases e261
          replace hx261_0:=(HB.out.cell (World.block_lt_of_cell? w _ hx261_0)).trans hx261_0
          replace hx261_1:=(HB.out.cell (World.block_lt_of_cell? w _ hx261_1)).trans hx261_1
          replace hx261_2:=(HB.out.cell (World.block_lt_of_cell? w _ hx261_2)).trans hx261_2
          replace p261:=eq_true p261
          replace q261:=eq_true q261
          go_wp2
          repeat (go_quiet (fail);try go_wp2)
          go_roundg kj4
          case measure=>have:=HK1.out;have:=HJ4.out;omega
          case rel=>exact ⟨(wrap64 (x5_1+1)),(by first|rfl|(simp;done)|(simp [*];done)),H',⟨by have:=HK1.out;have:=HJ4.out;omega⟩,⟨by (with_reducible repeat first|apply bN|apply bD|apply bA);exact BK258.out⟩,⟨by (with_reducible repeat first|apply bN|apply bD|apply bA);exact BK259.out⟩,⟨by repeat (first|(with_reducible first|exact HB.out|apply qA|apply qN|apply q1_|refine qS ?_ GE258.out|refine qS ?_ GE259.out)|exact HB.out)⟩⟩
        ·rw [if_neg c15] at H
         exact absurd H (by simp)
       ·rw [if_neg c14] at H
        exact absurd H (by simp)
      ·rw [if_neg c13] at H
       exact absurd H (by simp)
     ·replace c12:=Bool.eq_false_iff.mpr c12
      subst c12
      have H1:(some ((l0_0.length:Int) == (l1_0.length:Int)))=some r:=by rw [if_neg (show ¬ (false=true) by decide)] at H;exact H
      clear H
      have H:=H1
      clear H1
      obtain rfl:=Option.some.inj H
      have hnb23:=NB258_259.out
      have hnc23:=NB259_258.out
      have hcz24_0:wc.cell? ⟨gb258,0,none⟩=some (.slice A0_0 l0_0.length c0_0):=(bC BK258.out 0).trans rfl
      have hfz24_0:=bF BK258.out 0
      have hcz25_0:wc.cell? ⟨gb259,0,none⟩=some (.slice A1_0 l1_0.length c1_0):=(bC BK259.out 0).trans rfl
      have hfz25_0:=bF BK259.out 0
      go_wp2
      repeat (go_quiet (fail);try go_wp2)
      go_ret
      exact ⟨by first|rfl|(simp [errW_none,errW_some] <;> rfl)|(simp [*,errW_none,errW_some] <;> rfl),by repeat (first|(with_reducible first|exact HB.out|apply qA|apply qN|apply q1_|refine qS ?_ GE258.out|refine qS ?_ GE259.out)|exact HB.out)⟩
def spec_l2Has.l0:Nat→List ByteArray→ByteArray→Int→Option (Bool)
 | 0,_,_,_=>none
 | k+1,x0,x1,x5=>if x5<(x0.length:Int) then (if 0≤x5 then (if (rdOf ByteArray.empty x0 x5).toList=x1.toList then (some true) else (spec_l2Has.l0 k x0 x1 (wrap64 (x5+1)))) else (none)) else (some false)
def spec_l2Has.f (k:Nat) (l0:List ByteArray) (a1:ByteArray):Option (Bool):=spec_l2Has.l0 k l0 a1 0
set_option maxHeartbeats 8000000 in
set_option maxRecDepth 100000 in
theorem spec_l2Has.calls (k:Nat) (A0:Option Addr) (c0:Nat) (l0:List ByteArray) (a1:ByteArray) (r:Bool) (w:World) (hr0:Kd.C Kd.string w A0 l0.length l0) (hc0:l0.length≤c0) (h:spec_l2Has.f k l0 a1=some r) :
  Calls Tryz.prog 68 #[.slice A0 l0.length c0,.string a1] w fun e w'=>e=.returned (.bool r)∧Drawn0 w w':=by
 have HR0:=Zz.mk hr0
 have HC0:=Zz.mk hc0
 clear hr0 hc0
 have H:(spec_l2Has.l0 k l0 a1 0)=some r:=h
 clear h
 have H':=Zz.mk H
 clear H
 go_enter Tryz.func68,Tryz.ntmps68
 go_wp2
 go_loopg [5] k (fun kq v5 w'=>∃ (x5_1:Int),v5=.int .i64 x5_1∧Zz (spec_l2Has.l0 kq l0 a1 x5_1=some r)∧Zz (kq≤k)∧Drawn0 w w')
 case atStart=>exact ⟨(0),(by first|rfl|(simp;done)|(simp [*];done)),H',⟨Nat.le_refl _⟩,by repeat (first|exact Drawn0.refl _|apply Drawn0.step)⟩
 case round =>
  clear H'
  try clear p2
  obtain ⟨x5_1,rfl,HA,HK1,⟨m1,rfl⟩⟩:=hrel
  cases gk with
  | zero=>exact absurd HA.out (by simp [spec_l2Has.l0])
  | succ k1 =>
   have H:=HA.out
   clear HA
   simp only [spec_l2Has.l0] at H
   by_cases c3:x5_1<(l0.length:Int)
   ·rw [if_pos c3] at H
    have c3b0:decide (x5_1<(l0.length:Int))=true:=decide_eq_true c3
    clear c3
    by_cases c4:0≤x5_1
    ·rw [if_pos c4] at H
     have c4b0:decide (0≤x5_1)=true:=decide_eq_true c4
     clear c4
     by_cases c5:(rdOf ByteArray.empty l0 x5_1).toList=a1.toList
     ·rw [if_pos c5] at H
      have c5b0:((rdOf ByteArray.empty l0 x5_1).toList == a1.toList)=true:=beq_iff_eq.mpr c5
      have c5b1:((rdOf ByteArray.empty l0 x5_1).toList != a1.toList)=false:=bne_eq_false_iff_eq.mpr c5
      clear c5
      obtain rfl:=Option.some.inj H
      have p262:0≤(x5_1:Int):=of_decide_eq_true (by first|(with_reducible assumption)|assumption)
      have q262:x5_1<(l0.length:Int):=of_decide_eq_true (by first|(with_reducible assumption)|assumption)
      obtain ⟨ad262,e262,hx262_0⟩:=Kd.at_string HR0.out x5_1 p262 q262
      cases e262
      replace p262:=eq_true p262
      replace q262:=eq_true q262
      go_wp2
      go_ret
      exact ⟨by first|rfl|(simp;done)|(simp [*];done),by repeat (first|exact Drawn0.refl _|apply Drawn0.step)⟩
     ·rw [if_neg c5] at H
      have c5b0:((rdOf ByteArray.empty l0 x5_1).toList == a1.toList)=false:=beq_eq_false_iff_ne.mpr c5
      have c5b1:((rdOf ByteArray.empty l0 x5_1).toList != a1.toList)=true:=bne_iff_ne.mpr c5
      have H':=Zz.mk H
      clear H
      have p262:0≤(x5_1:Int):=of_decide_eq_true (by first|(with_reducible assumption)|assumption)
      have q262:x5_1<(l0.length:Int):=of_decide_eq_true (by first|(with_reducible assumption)|assumption)
      obtain ⟨ad262,e262,hx262_0⟩:=Kd.at_string HR0.out x5_1 p262 q262
      cases e262
      replace p262:=eq_true p262
      replace q262:=eq_true q262
      go_wp2
      go_roundg k1
      case measure=>have:=HK1.out;omega
      case rel=>exact ⟨(wrap64 (x5_1+1)),(by first|rfl|(simp;done)|(simp [*];done)),H',⟨by have:=HK1.out;omega⟩,by repeat (first|exact Drawn0.refl _|apply Drawn0.step)⟩
    ·rw [if_neg c4] at H
     exact absurd H (by simp)
   ·rw [if_neg c3] at H
    have c3b0:decide (x5_1<(l0.length:Int))=false:=decide_eq_false c3
    clear c3
    obtain rfl:=Option.some.inj H
    go_wp2
    go_ret
    exact ⟨by first|rfl|(simp;done)|(simp [*];done),by repeat (first|exact Drawn0.refl _|apply Drawn0.step)⟩
def spec_l2Place.l0:Nat→List ByteArray→ByteArray→Int→Option (Int)
 | 0,_,_,_=>none
 | k+1,x0,x1,x5=>if x5<(x0.length:Int) then (if 0≤x5 then (if (rdOf ByteArray.empty x0 x5).toList=x1.toList then (some x5) else (spec_l2Place.l0 k x0 x1 (wrap64 (x5+1)))) else (none)) else (some (-1))
def spec_l2Place.f (k:Nat) (l0:List ByteArray) (a1:ByteArray):Option (Int):=spec_l2Place.l0 k l0 a1 0
set_option maxHeartbeats 8000000 in
set_option maxRecDepth 100000 in
theorem spec_l2Place.calls (k:Nat) (A0:Option Addr) (c0:Nat) (l0:List ByteArray) (a1:ByteArray) (r:Int) (w:World) (hr0:Kd.C Kd.string w A0 l0.length l0) (hc0:l0.length≤c0) (h:spec_l2Place.f k l0 a1=some r) :
  Calls Tryz.prog 69 #[.slice A0 l0.length c0,.string a1] w fun e w'=>e=.returned (.int .i64 r)∧Drawn0 w w':=by
 have HR0:=Zz.mk hr0
 have HC0:=Zz.mk hc0
 clear hr0 hc0
 have H:(spec_l2Place.l0 k l0 a1 0)=some r:=h
 clear h
 have H':=Zz.mk H
 clear H
 go_enter Tryz.func69,Tryz.ntmps69
 go_wp2
 go_loopg [5] k (fun kq v5 w'=>∃ (x5_1:Int),v5=.int .i64 x5_1∧Zz (spec_l2Place.l0 kq l0 a1 x5_1=some r)∧Zz (kq≤k)∧Drawn0 w w')
 case atStart=>exact ⟨(0),(by first|rfl|(simp;done)|(simp [*];done)),H',⟨Nat.le_refl _⟩,by repeat (first|exact Drawn0.refl _|apply Drawn0.step)⟩
 case round =>
  clear H'
  try clear p2
  obtain ⟨x5_1,rfl,HA,HK1,⟨m1,rfl⟩⟩:=hrel
  cases gk with
  | zero=>exact absurd HA.out (by simp [spec_l2Place.l0])
  | succ k1 =>
   have H:=HA.out
   clear HA
   simp only [spec_l2Place.l0] at H
   by_cases c3:x5_1<(l0.length:Int)
   ·rw [if_pos c3] at H
    have c3b0:decide (x5_1<(l0.length:Int))=true:=decide_eq_true c3
    clear c3
    by_cases c4:0≤x5_1
    ·rw [if_pos c4] at H
     have c4b0:decide (0≤x5_1)=true:=decide_eq_true c4
     clear c4
     by_cases c5:(rdOf ByteArray.empty l0 x5_1).toList=a1.toList
     ·rw [if_pos c5] at H
      have c5b0:((rdOf ByteArray.empty l0 x5_1).toList == a1.toList)=true:=beq_iff_eq.mpr c5
      have c5b1:((rdOf ByteArray.empty l0 x5_1).toList != a1.toList)=false:=bne_eq_false_iff_eq.mpr c5
      clear c5
      obtain rfl:=Option.some.inj H
      have p263:0≤(x5_1:Int):=of_decide_eq_true (by first|(with_reducible assumption)|assumption)
      have q263:x5_1<(l0.length:Int):=of_decide_eq_true (by first|(with_reducible assumption)|assumption)
      obtain ⟨ad263,e263,hx263_0⟩:=Kd.at_string HR0.out x5_1 p263 q263
      cases e263
      replace p263:=eq_true p263
      replace q263:=eq_true q263
      go_wp2
      go_ret
      exact ⟨by first|rfl|(simp;done)|(simp [*];done),by repeat (first|exact Drawn0.refl _|apply Drawn0.step)⟩
     ·rw [if_neg c5] at H
      have c5b0:((rdOf ByteArray.empty l0 x5_1).toList == a1.toList)=false:=beq_eq_false_iff_ne.mpr c5
      have c5b1:((rdOf ByteArray.empty l0 x5_1).toList != a1.toList)=true:=bne_iff_ne.mpr c5
      have H':=Zz.mk H
      clear H
      have p263:0≤(x5_1:Int):=of_decide_eq_true (by first|(with_reducible assumption)|assumption)
      have q263:x5_1<(l0.length:Int):=of_decide_eq_true (by first|(with_reducible assumption)|assumption)
      obtain ⟨ad263,e263,hx263_0⟩:=Kd.at_string HR0.out x5_1 p263 q263
      cases e263
      replace p263:=eq_true p263
      replace q263:=eq_true q263
      go_wp2
      go_roundg k1
      case measure=>have:=HK1.out;omega
      case rel=>exact ⟨(wrap64 (x5_1+1)),(by first|rfl|(simp;done)|(simp [*];done)),H',⟨by have:=HK1.out;omega⟩,by repeat (first|exact Drawn0.refl _|apply Drawn0.step)⟩
    ·rw [if_neg c4] at H
     exact absurd H (by simp)
   ·rw [if_neg c3] at H
    have c3b0:decide (x5_1<(l0.length:Int))=false:=decide_eq_false c3
    clear c3
    obtain rfl:=Option.some.inj H
    go_wp2
    go_ret
    exact ⟨by first|rfl|(simp;done)|(simp [*];done),by repeat (first|exact Drawn0.refl _|apply Drawn0.step)⟩
end Go.Proofs.YtadpmgdmiaoniaaGreatDoor.Q
