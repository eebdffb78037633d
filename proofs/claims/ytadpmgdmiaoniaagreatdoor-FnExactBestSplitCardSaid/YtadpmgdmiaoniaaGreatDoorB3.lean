import Derived.Test.YtadpmgdmiaoniaaGreatDoorB0
import Derived.Test.YtadpmgdmiaoniaaGreatDoorB1
import Derived.Test.YtadpmgdmiaoniaaGreatDoorB2
import Derived.Test.YtadpmgdmiaoniaaGreatDoorBwWords
import Derived.Test.YtadpmgdmiaoniaaGreatDoorBwLast
import Derived.Test.YtadpmgdmiaoniaaGreatDoorBwTab
import Derived.Test.YtadpmgdmiaoniaaGreatDoorBwApart
import Derived.Test.YtadpmgdmiaoniaaGreatDoorBwFoot
import Derived.Test.YtadpmgdmiaoniaaGreatDoorBwKept
import Derived.Test.YtadpmgdmiaoniaaGreatDoorBwShare
import Derived.Test.YtadpmgdmiaoniaaGreatDoorBwN
import Derived.Test.YtadpmgdmiaoniaaGreatDoorBwAt
import Derived.Test.YtadpmgdmiaoniaaGreatDoorBwEqStruct
import Derived.Test.YtadpmgdmiaoniaaGreatDoorBwRepsOne
import Derived.Test.YtadpmgdmiaoniaaGreatDoorBwGuard
import Derived.Test.YtadpmgdmiaoniaaGreatDoorBwMore
import Derived.Test.YtadpmgdmiaoniaaGreatDoorProg
import Derived.Below
import Derived.Deep.Draws
import Derived.Deep.AppendLies
import Derived.Maps.AppendAt
import Derived.OwnWalk
import Derived.Laws.BytesArg
import Derived.Laws.MakeOwn
import Derived.Laws.OwnMore
import Derived.Deep.OwnRows
import Derived.Tactics
import Derived.Lib.ConvBytes
import Derived.Laws.Slices
import Derived.WalkKit
import Derived.KernelRfl
import Derived.RowKit3
import Derived.Deep.LoopGhost
import Derived.Deep.QuietTactic
import Derived.BigQuiet
import Derived.WideLaws
import Derived.Deep.DeepCutAuto
import Derived.Deep.CutBlock
import Derived.Deep.RegionHeld3
import Derived.Laws.Rows
import Derived.Lib.AppendStr
import Derived.ArgAppend
import Derived.Laws.IdiomCopy
import Derived.OrdersHeld
import Derived.Laws.BitsLemmas
import Derived.RowKit
import Derived.Lib.SlicesCompact
import Derived.Sort.Walk0
import Derived.Lib.Strings
import Derived.Shelf.Strings.SlTrimAscii
import Derived.Ground.NamesProg
import Derived.Ground.SlgfProg
import Derived.Lib.OwnBridge
import Derived.Sort.OwnSorted
import Derived.Sort.Grow
import Derived.RangeFuncBox
import Derived.RangeFuncLeaves
import Derived.Shelf.Abstract
import Derived.OwnWalkIn
import Derived.TacticsInMore
import Derived.LoopNIn
import Derived.LoopIn
import Derived.Shelf.Strings.OnBuilder
import Derived.Shelf.Sort.Plain
import Derived.Shelf.Slices.CompactS
import Derived.Shelf.Slices.In.SortNone
import Derived.Maps.Own
import Derived.StringKeys
import Derived.Maps.OwnOps
import Derived.Maps.OwnSet
import Derived.Maps.Views
import Derived.Laws.AppendOwn
import Derived.Deep.DrawnRows
set_option linter.unusedVariables false
set_option linter.unusedSimpArgs false
namespace Go.Proofs.YtadpmgdmiaoniaaGreatDoor.Q
open Go.RowKit Go.Proofs.YtadpmgdmiaoniaaGreatDoorW.PrintWords Go.Proofs.YtadpmgdmiaoniaaGreatDoorW.PrintLast Go.Proofs.YtadpmgdmiaoniaaGreatDoorW.PrintMore
attribute [local go_sem] run_field_23 run_field_24 run_field_30 run_field_31 isSome_setCell max2_int min2_int max_two min_two max_three min_three max_four min_four   -- for this text's walks alone
set_option linter.unusedVariables false
set_option linter.unusedSimpArgs false
mutual
def spec_BestSplit.l0:Nat→ByteArray→List ByteArray→List ByteArray→List Int→Int→Option (List ByteArray × Bool)
  | 0,_,_,_,_,_=>none
  | k+1,x1,x6,x7,x8,x9=>if x9 ≥ 0 then (if 0≤x9 then (if x9<(x8.length:Int) then ((spec_l3Matches.f k x7 x1 x9).bind fun t502=>(spec_BestSplit.l1 k x1 x6 x7 (x8.set (x9:Int).toNat (-1)) x9 t502 0)) else (none)) else (none)) else (if 0<(x8.length:Int) then (if (rd x8 0)<0 then (some (x6,false)) else (spec_BestSplit.l2 k x1 x6 x7 x8 0)) else (none))
def spec_BestSplit.l1:Nat→ByteArray→List ByteArray→List ByteArray→List Int→Int→List Int→Int→Option (List ByteArray × Bool)
  | 0,_,_,_,_,_,_,_=>none
  | k+1,x1,x6,x7,x8,x9,x10,x11=>if x11<(x10.length:Int) then (if 0≤x11 then (if 0≤(wrap64 (x9+(rd x10 x11))) then (if (wrap64 (x9+(rd x10 x11)))<(x8.length:Int) then (if (rd x8 (wrap64 (x9+(rd x10 x11)))) ≥ 0 then (if 0≤x9 then (if x9<(x8.length:Int) then (if (rd x8 x9)<0 then (spec_BestSplit.l1 k x1 x6 x7 (x8.set (x9:Int).toNat (wrap64 ((rd x8 (wrap64 (x9+(rd x10 x11))))+1))) x9 x10 (wrap64 (x11+1))) else (if (wrap64 ((rd x8 (wrap64 (x9+(rd x10 x11))))+1))<(rd x8 x9) then (spec_BestSplit.l1 k x1 x6 x7 (x8.set (x9:Int).toNat (wrap64 ((rd x8 (wrap64 (x9+(rd x10 x11))))+1))) x9 x10 (wrap64 (x11+1))) else (spec_BestSplit.l1 k x1 x6 x7 x8 x9 x10 (wrap64 (x11+1))))) else (none)) else (none)) else (spec_BestSplit.l1 k x1 x6 x7 x8 x9 x10 (wrap64 (x11+1)))) else (none)) else (none)) else (none)) else (spec_BestSplit.l0 k x1 x6 x7 x8 (wrap64 (x9 - 1)))
def spec_BestSplit.l2:Nat→ByteArray→List ByteArray→List ByteArray→List Int→Int→Option (List ByteArray × Bool)
  | 0,_,_,_,_,_=>none
  | k+1,x1,x6,x7,x8,x13=>if x13<(x1.size:Int) then ((spec_l3Matches.f k x7 x1 x13).bind fun t512=>(spec_BestSplit.l3 k x1 x6 x7 x8 x13 t512 (wrap64 ((t512.length:Int) - 1)))) else (some (x6,true))
def spec_BestSplit.l3:Nat→ByteArray→List ByteArray→List ByteArray→List Int→Int→List Int→Int→Option (List ByteArray × Bool)
  | 0,_,_,_,_,_,_,_=>none
  | k+1,x1,x6,x7,x8,x13,x14,x15=>if 0≤x15 then (if x15<(x14.length:Int) then (if 0≤(wrap64 (x13+(rd x14 x15))) then (if (wrap64 (x13+(rd x14 x15)))<(x8.length:Int) then (if 0≤x13 then (if x13<(x8.length:Int) then (if (rd x8 (wrap64 (x13+(rd x14 x15))))=(wrap64 ((rd x8 x13) - 1)) then (if x13≤(wrap64 (x13+(rd x14 x15))) then (if (wrap64 (x13+(rd x14 x15)))≤(x1.size:Int) then (if x6.length<8796093022208 then (spec_BestSplit.l2 k x1 (x6 ++ [x1.extract (x13:Int).toNat ((wrap64 (x13+(rd x14 x15))):Int).toNat]) x7 x8 (wrap64 (x13+(rd x14 x15)))) else (none)) else (none)) else (none)) else (spec_BestSplit.l3 k x1 x6 x7 x8 x13 x14 (wrap64 (x15 - 1)))) else (none)) else (none)) else (none)) else (none)) else (none)) else (none)
end
def spec_BestSplit.f (k:Nat) (l0_0:List (S70)) (a1:ByteArray):Option (List ByteArray × Bool):=(some (([]:List ByteArray):List ByteArray)).bind fun y491=>((spec_l3Good.f k l0_0 a1).bind fun t494=>(if t494=true then ((spec_l2Words.f k l0_0).bind fun t495=>(if 0≤(wrap64 ((a1.size:Int)+1)) then (if (wrap64 ((a1.size:Int)+1):Int).toNat≤35184372088832 then (spec_BestSplit.l0 k a1 y491 t495 (List.replicate (wrap64 ((a1.size:Int)+1):Int).toNat 0) (wrap64 ((a1.size:Int) - 1))) else (none)) else (none))) else (some (y491,false))))
set_option maxHeartbeats 8000000 in
set_option maxRecDepth 100000 in
theorem spec_BestSplit.calls (k:Nat) (A0_0:Option Addr) (c0_0:Nat) (l0_0:List (S70)) (a1:ByteArray) (r1:List ByteArray) (r2:Bool) (w:World) (hr0_0:Kd.C k70 w A0_0 l0_0.length l0_0) (hc0_0:l0_0.length≤c0_0) (h:spec_BestSplit.f k l0_0 a1=some (r1,r2)) :
  Calls Tryz.prog 20 #[.agg #[.slice A0_0 l0_0.length c0_0],.string a1] w fun e w'=>∃ v0_:Value,e=.returned (.tuple #[v0_,.bool r2])∧Kd.R Kd.string 9 w' w.heap.size (fun _=>True) v0_ r1∧Below w.heap.size w w':=by
 have hu31:=Tryz.underlying31
 have HR0_0:=Zz.mk hr0_0
 have HC0_0:=Zz.mk hc0_0
 clear hr0_0 hc0_0
 have HB:=Zz.mk (Below.refl w.heap.size w)
 have H:((some (([]:List ByteArray):List ByteArray)).bind fun y491=>((spec_l3Good.f k l0_0 a1).bind fun t494=>(if t494=true then ((spec_l2Words.f k l0_0).bind fun t495=>(if 0≤(wrap64 ((a1.size:Int)+1)) then (if (wrap64 ((a1.size:Int)+1):Int).toNat≤35184372088832 then (spec_BestSplit.l0 k a1 y491 t495 (List.replicate (wrap64 ((a1.size:Int)+1):Int).toNat 0) (wrap64 ((a1.size:Int) - 1))) else (none)) else (none))) else (some (y491,false)))))=some (r1,r2):=h
 clear h
 obtain ⟨y491,hy491⟩:∃ y_:List ByteArray,y_=(([]:List ByteArray)):=⟨_,rfl⟩
 replace H:((spec_l3Good.f k l0_0 a1).bind fun t494=>(if t494=true then ((spec_l2Words.f k l0_0).bind fun t495=>(if 0≤(wrap64 ((a1.size:Int)+1)) then (if (wrap64 ((a1.size:Int)+1):Int).toNat≤35184372088832 then (spec_BestSplit.l0 k a1 y491 t495 (List.replicate (wrap64 ((a1.size:Int)+1):Int).toNat 0) (wrap64 ((a1.size:Int) - 1))) else (none)) else (none))) else (some (y491,false))))=some (r1,r2):=by first|(rw [hy491];with_reducible exact H)|(have H2_:=(Option.bind_some _ _).symm.trans H;rw [hy491];with_reducible exact H2_)|(have H2_:=(Option.bind_some _ _).symm.trans H;with_reducible exact H2_)|with_reducible exact H|(rw [hy491];exact H)|exact H
 have Ny491:=Zz.mk hy491
 clear hy491
 replace H:=Option.bind_eq_some_iff.mp H
 obtain ⟨t494,A30,H⟩:=H
 replace H:(if t494=true then ((spec_l2Words.f k l0_0).bind fun t495=>(if 0≤(wrap64 ((a1.size:Int)+1)) then (if (wrap64 ((a1.size:Int)+1):Int).toNat≤35184372088832 then (spec_BestSplit.l0 k a1 y491 t495 (List.replicate (wrap64 ((a1.size:Int)+1):Int).toNat 0) (wrap64 ((a1.size:Int) - 1))) else (none)) else (none))) else (some (y491,false)))=some (r1,r2):=H
 have A3:=Zz.mk A30
 clear A30
 by_cases c4:t494=true
 ·subst c4
  have H1:((spec_l2Words.f k l0_0).bind fun t495=>(if 0≤(wrap64 ((a1.size:Int)+1)) then (if (wrap64 ((a1.size:Int)+1):Int).toNat≤35184372088832 then (spec_BestSplit.l0 k a1 y491 t495 (List.replicate (wrap64 ((a1.size:Int)+1):Int).toNat 0) (wrap64 ((a1.size:Int) - 1))) else (none)) else (none)))=some (r1,r2):=by rw [if_pos rfl] at H;exact H
  clear H
  have H:=H1
  clear H1
  replace H:=Option.bind_eq_some_iff.mp H
  obtain ⟨t495,A50,H⟩:=H
  replace H:(if 0≤(wrap64 ((a1.size:Int)+1)) then (if (wrap64 ((a1.size:Int)+1):Int).toNat≤35184372088832 then (spec_BestSplit.l0 k a1 y491 t495 (List.replicate (wrap64 ((a1.size:Int)+1):Int).toNat 0) (wrap64 ((a1.size:Int) - 1))) else (none)) else (none))=some (r1,r2):=H
  have A5:=Zz.mk A50
  clear A50
  obtain ⟨ji6,hji6⟩:∃ j_:Int,(wrap64 ((a1.size:Int)+1))=j_:=⟨_,rfl⟩
  replace H:(if 0≤(ji6) then (if (ji6:Int).toNat≤35184372088832 then (spec_BestSplit.l0 k a1 y491 t495 (List.replicate (ji6:Int).toNat 0) (wrap64 ((a1.size:Int) - 1))) else (none)) else (none))=some (r1,r2):=by first|(rw [hji6] at H;exact H)|(simp only [hji6] at H ⊢;exact H)
  (try rw [hji6] at A3)
  (try rw [hji6] at A5)
  have hji6w:(IntKind.i64.wrap ((a1.size:Int)+1))=ji6:=(i64_w _).trans hji6
  by_cases c7:0≤(ji6)
  ·rw [if_pos c7] at H
   have c7b0:=eq_true c7
   have c7b1:decide (0≤(ji6))=true:=decide_eq_true c7
   clear c7
   by_cases c8:(ji6:Int).toNat≤35184372088832
   ·rw [if_pos c8] at H
    have c8b0:=eq_true c8
    have c8b1:decide ((ji6:Int).toNat≤35184372088832)=true:=decide_eq_true c8
    clear c8
    obtain ⟨y498,hy498⟩:∃ y_:List Int,y_=(List.replicate (ji6:Int).toNat 0):=⟨_,rfl⟩
    replace H:(spec_BestSplit.l0 k a1 y491 t495 y498 (wrap64 ((a1.size:Int) - 1)))=some (r1,r2):=by first|(rw [hy498];with_reducible exact H)|(have H2_:=(Option.bind_some _ _).symm.trans H;rw [hy498];with_reducible exact H2_)|(have H2_:=(Option.bind_some _ _).symm.trans H;with_reducible exact H2_)|with_reducible exact H|(rw [hy498];exact H)|exact H
    have Ny498:=Zz.mk hy498
    clear hy498
    have H':=Zz.mk H
    clear H
    go_enter Tryz.func20,Tryz.ntmps20
    go_wp2_with (first|((with_reducible refine gate_dst (N:=2) rfl ?_);refine box_event ?hg (N:=2) ?hd (cs:=#[.slice A0_0 l0_0.length c0_0]) (t:=31) ?hr ?_;(case hd=>rfl);(case hg=>rfl);(case hr=>first|(go_simp;done)|(go_simp;rfl));intro gb490 hg w9 hbox hb;have n0_:=Zz.mk (qP (by repeat (first|(with_reducible first|exact HB.out|apply qA|apply qN|apply q1_)|exact HB.out)) hb);have n1_:=Zz.mk (hbox);have n2_:=Zz.mk ((by rw [hg];exact (qZ (by repeat (first|(with_reducible first|exact HB.out|apply qA|apply qN|apply q1_)|exact HB.out))):w.heap.size≤gb490));have n3_:=Zz.mk ((by rw [hg];exact (qZ (by repeat (first|(with_reducible first|exact HB.out|apply qA|apply qN|apply q1_)|exact HB.out))):w.heap.size≤gb490));clear HB;have HB:=n0_;have BK490:=n1_;have GW490:=n2_;have GE490:=n3_;clear n0_ n1_ n2_ n3_;clear hb hbox hg)|((with_reducible refine gate_dst (N:=16) rfl ?_);refine Kd.R_lit Kd.string _ 9 ?hg (N:=16) ?hd (xs:=([]:List ByteArray)) (inner:=[]) (ok:=fun _=>True) (okp:=fun _=>True) ?hr ?hp (fun _ hk=>hk) trivial (Below.refl _ _) (Nat.le_refl _) (by simp) ?_;(case hd=>rfl);(case hg=>rfl);(case hr=>first|(go_simp;done)|(go_simp;rfl));(case hp=>exact (Reps.none _ _));intro v492 w10 ho11 hb hg_ hnew_;clear hg_ hnew_;(first|rw [← Ny491.out] at ho11|(simp only [Int.reduceToNat] at ho11;rw [← Ny491.out] at ho11));have n0_:=Zz.mk (Kd.R_lower ho11 (qZ (by repeat (first|(with_reducible first|exact HB.out|apply qA|apply qN|apply q1_|refine qS ?_ GE490.out)|exact HB.out))));have n1_:=Zz.mk (bB (g:=gb490) (o:=.cells #[.slice A0_0 l0_0.length c0_0] 31 (0,0)) (by (with_reducible repeat first|apply bN|apply bD|apply bA);exact BK490.out) hb);have n2_:=Zz.mk (qP (by repeat (first|(with_reducible first|exact HB.out|apply qA|apply qN|apply q1_|refine qS ?_ GE490.out)|exact HB.out)) hb);clear BK490;clear HB;have HO493:=n0_;have BK490:=n1_;have HB:=n2_;clear n0_ n1_ n2_;clear hb ho11;have hcz12_0:w10.cell? ⟨gb490,0,none⟩=some (.slice A0_0 l0_0.length c0_0):=(bC BK490.out 0).trans rfl;have hfz12_0:=bF BK490.out 0)|(go_at_call 26;(with_reducible refine (spec_l3Good.calls k _ _ l0_0 a1 true _ ?side1 ?side2 A3.out).mono ?_);(case side1=>repeat (first|exact (Kd.C_below HR0_0.out HB.out)|(with_reducible refine Kd.C_alloc ?_ _)|(with_reducible refine Kd.C_drewN ?_ _)|(with_reducible refine Kd.C_drew ?_)));(case side2=>exact HC0_0.out);rintro e w13 ⟨rfl,hb⟩;have n0_:=Zz.mk (Kd.R_below (by (with_reducible repeat first|apply Kd.R_alloc|apply Kd.R_drewN|apply Kd.R_drew);exact HO493.out) hb);have n1_:=Zz.mk (bB (g:=gb490) (o:=.cells #[.slice A0_0 l0_0.length c0_0] 31 (0,0)) (by (with_reducible repeat first|apply bN|apply bD|apply bA);exact BK490.out) hb);have n2_:=Zz.mk (qP (by repeat (first|(with_reducible first|exact HB.out|apply qA|apply qN|apply q1_|refine qS ?_ GE490.out)|exact HB.out)) hb);clear HO493;clear BK490;clear HB;have HO493:=n0_;have BK490:=n1_;have HB:=n2_;clear n0_ n1_ n2_;(try clear hb);(try clear hb2);(try clear hk);(try clear hi);have hcz14_0:w13.cell? ⟨gb490,0,none⟩=some (.slice A0_0 l0_0.length c0_0):=(bC BK490.out 0).trans rfl;have hfz14_0:=bF BK490.out 0)|(go_at_call 27;(with_reducible refine (spec_l2Words.calls k _ _ l0_0 t495 _ ?side1 ?side2 A5.out).mono ?_);(case side1=>repeat (first|exact (Kd.C_below HR0_0.out HB.out)|(with_reducible refine Kd.C_alloc ?_ _)|(with_reducible refine Kd.C_drewN ?_ _)|(with_reducible refine Kd.C_drew ?_)));(case side2=>exact HC0_0.out);rintro e w15 ⟨v496,rfl,ho0,hb⟩;have n0_:=Zz.mk (Kd.R_elder' (by (with_reducible repeat first|apply Kd.R_alloc|apply Kd.R_drewN|apply Kd.R_drew);exact HO493.out) (Kd.R_base ho0) hb);have n1_:=Zz.mk (Kd.R_lower (Kd.R_new' ho0 (Kd.R_lt (by (with_reducible repeat first|apply Kd.R_alloc|apply Kd.R_drewN|apply Kd.R_drew);exact HO493.out))) (qZ (by repeat (first|(with_reducible first|exact HB.out|apply qA|apply qN|apply q1_|refine qS ?_ GE490.out)|exact HB.out))));have n2_:=Zz.mk (bB (g:=gb490) (o:=.cells #[.slice A0_0 l0_0.length c0_0] 31 (0,0)) (by (with_reducible repeat first|apply bN|apply bD|apply bA);exact BK490.out) hb);have n3_:=Zz.mk (qP (by repeat (first|(with_reducible first|exact HB.out|apply qA|apply qN|apply q1_|refine qS ?_ GE490.out)|exact HB.out)) hb);clear HO493;clear BK490;clear HB;have HO493:=n0_;have HO497:=n1_;have BK490:=n2_;have HB:=n3_;clear n0_ n1_ n2_ n3_;(try clear hb);(try clear hb2);(try clear hk);(try clear hi);(try clear ho0))|((with_reducible refine gate_dst (N:=27) rfl ?_);refine Kd.R_make (Kd.int .i64) _ 3 rfl (N:=27) rfl 38 _ _ rfl ji6 rfl rfl Tryz.underlying38 (.int .i64 0) 8 info3 rfl (by decide) (by omega) 0 (ok:=fun _=>True) (okp:=fun _=>True) rfl (fun _ hk=>hk) trivial (of_decide_eq_true (by first|(with_reducible assumption)|assumption)) (Nat.le_trans (Nat.mul_le_mul_right _ (of_decide_eq_true (by first|(with_reducible assumption)|assumption):ji6.toNat≤35184372088832)) (by omega)) (Below.refl _ _) (Nat.le_refl _) ?_;intro v499 w16 ho17 hb hg_ hnew_;clear hg_ hnew_;(first|rw [← Ny498.out] at ho17|(simp only [Int.reduceToNat] at ho17;rw [← Ny498.out] at ho17));have n0_:=Zz.mk (Kd.R_below (by (with_reducible repeat first|apply Kd.R_alloc|apply Kd.R_drewN|apply Kd.R_drew);exact HO493.out) hb);have n1_:=Zz.mk (Kd.R_below (by (with_reducible repeat first|apply Kd.R_alloc|apply Kd.R_drewN|apply Kd.R_drew);exact HO497.out) hb);have n2_:=Zz.mk (Kd.R_lower ho17 (qZ (by repeat (first|(with_reducible first|exact HB.out|apply qA|apply qN|apply q1_|refine qS ?_ GE490.out)|exact HB.out))));have n3_:=Zz.mk (bB (g:=gb490) (o:=.cells #[.slice A0_0 l0_0.length c0_0] 31 (0,0)) (by (with_reducible repeat first|apply bN|apply bD|apply bA);exact BK490.out) hb);have n4_:=Zz.mk (qP (by repeat (first|(with_reducible first|exact HB.out|apply qA|apply qN|apply q1_|refine qS ?_ GE490.out)|exact HB.out)) hb);clear HO493;clear HO497;clear BK490;clear HB;have HO493:=n0_;have HO497:=n1_;have HO500:=n2_;have BK490:=n3_;have HB:=n4_;clear n0_ n1_ n2_ n3_ n4_;clear hb ho17))
    repeat (go_quiet (first|((with_reducible refine gate_dst (N:=2) rfl ?_);refine box_event ?hg (N:=2) ?hd (cs:=#[.slice A0_0 l0_0.length c0_0]) (t:=31) ?hr ?_;(case hd=>rfl);(case hg=>rfl);(case hr=>first|(go_simp;done)|(go_simp;rfl));intro gb490 hg w9 hbox hb;have n0_:=Zz.mk (qP (by repeat (first|(with_reducible first|exact HB.out|apply qA|apply qN|apply q1_)|exact HB.out)) hb);have n1_:=Zz.mk (hbox);have n2_:=Zz.mk ((by rw [hg];exact (qZ (by repeat (first|(with_reducible first|exact HB.out|apply qA|apply qN|apply q1_)|exact HB.out))):w.heap.size≤gb490));have n3_:=Zz.mk ((by rw [hg];exact (qZ (by repeat (first|(with_reducible first|exact HB.out|apply qA|apply qN|apply q1_)|exact HB.out))):w.heap.size≤gb490));clear HB;have HB:=n0_;have BK490:=n1_;have GW490:=n2_;have GE490:=n3_;clear n0_ n1_ n2_ n3_;clear hb hbox hg)|((with_reducible refine gate_dst (N:=16) rfl ?_);refine Kd.R_lit Kd.string _ 9 ?hg (N:=16) ?hd (xs:=([]:List ByteArray)) (inner:=[]) (ok:=fun _=>True) (okp:=fun _=>True) ?hr ?hp (fun _ hk=>hk) trivial (Below.refl _ _) (Nat.le_refl _) (by simp) ?_;(case hd=>rfl);(case hg=>rfl);(case hr=>first|(go_simp;done)|(go_simp;rfl));(case hp=>exact (Reps.none _ _));intro v492 w10 ho11 hb hg_ hnew_;clear hg_ hnew_;(first|rw [← Ny491.out] at ho11|(simp only [Int.reduceToNat] at ho11;rw [← Ny491.out] at ho11));have n0_:=Zz.mk (Kd.R_lower ho11 (qZ (by repeat (first|(with_reducible first|exact HB.out|apply qA|apply qN|apply q1_|refine qS ?_ GE490.out)|exact HB.out))));have n1_:=Zz.mk (bB (g:=gb490) (o:=.cells #[.slice A0_0 l0_0.length c0_0] 31 (0,0)) (by (with_reducible repeat first|apply bN|apply bD|apply bA);exact BK490.out) hb);have n2_:=Zz.mk (qP (by repeat (first|(with_reducible first|exact HB.out|apply qA|apply qN|apply q1_|refine qS ?_ GE490.out)|exact HB.out)) hb);clear BK490;clear HB;have HO493:=n0_;have BK490:=n1_;have HB:=n2_;clear n0_ n1_ n2_;clear hb ho11;have hcz12_0:w10.cell? ⟨gb490,0,none⟩=some (.slice A0_0 l0_0.length c0_0):=(bC BK490.out 0).trans rfl;have hfz12_0:=bF BK490.out 0)|(go_at_call 26;(with_reducible refine (spec_l3Good.calls k _ _ l0_0 a1 true _ ?side1 ?side2 A3.out).mono ?_);(case side1=>repeat (first|exact (Kd.C_below HR0_0.out HB.out)|(with_reducible refine Kd.C_alloc ?_ _)|(with_reducible refine Kd.C_drewN ?_ _)|(with_reducible refine Kd.C_drew ?_)));(case side2=>exact HC0_0.out);rintro e w13 ⟨rfl,hb⟩;have n0_:=Zz.mk (Kd.R_below (by (with_reducible repeat first|apply Kd.R_alloc|apply Kd.R_drewN|apply Kd.R_drew);exact HO493.out) hb);have n1_:=Zz.mk (bB (g:=gb490) (o:=.cells #[.slice A0_0 l0_0.length c0_0] 31 (0,0)) (by (with_reducible repeat first|apply bN|apply bD|apply bA);exact BK490.out) hb);have n2_:=Zz.mk (qP (by repeat (first|(with_reducible first|exact HB.out|apply qA|apply qN|apply q1_|refine qS ?_ GE490.out)|exact HB.out)) hb);clear HO493;clear BK490;clear HB;have HO493:=n0_;have BK490:=n1_;have HB:=n2_;clear n0_ n1_ n2_;(try clear hb);(try clear hb2);(try clear hk);(try clear hi);have hcz14_0:w13.cell? ⟨gb490,0,none⟩=some (.slice A0_0 l0_0.length c0_0):=(bC BK490.out 0).trans rfl;have hfz14_0:=bF BK490.out 0)|(go_at_call 27;(with_reducible refine (spec_l2Words.calls k _ _ l0_0 t495 _ ?side1 ?side2 A5.out).mono ?_);(case side1=>repeat (first|exact (Kd.C_below HR0_0.out HB.out)|(with_reducible refine Kd.C_alloc ?_ _)|(with_reducible refine Kd.C_drewN ?_ _)|(with_reducible refine Kd.C_drew ?_)));(case side2=>exact HC0_0.out);rintro e w15 ⟨v496,rfl,ho0,hb⟩;have n0_:=Zz.mk (Kd.R_elder' (by (with_reducible repeat first|apply Kd.R_alloc|apply Kd.R_drewN|apply Kd.R_drew);exact HO493.out) (Kd.R_base ho0) hb);have n1_:=Zz.mk (Kd.R_lower (Kd.R_new' ho0 (Kd.R_lt (by (with_reducible repeat first|apply Kd.R_alloc|apply Kd.R_drewN|apply Kd.R_drew);exact HO493.out))) (qZ (by repeat (first|(with_reducible first|exact HB.out|apply qA|apply qN|apply q1_|refine qS ?_ GE490.out)|exact HB.out))));have n2_:=Zz.mk (bB (g:=gb490) (o:=.cells #[.slice A0_0 l0_0.length c0_0] 31 (0,0)) (by (with_reducible repeat first|apply bN|apply bD|apply bA);exact BK490.out) hb);have n3_:=Zz.mk (qP (by repeat (first|(with_reducible first|exact HB.out|apply qA|apply qN|apply q1_|refine qS ?_ GE490.out)|exact HB.out)) hb);clear HO493;clear BK490;clear HB;have HO493:=n0_;have HO497:=n1_;have BK490:=n2_;have HB:=n3_;clear n0_ n1_ n2_ n3_;(try clear hb);(try clear hb2);(try clear hk);(try clear hi);(try clear ho0))|((with_reducible refine gate_dst (N:=27) rfl ?_);refine Kd.R_make (Kd.int .i64) _ 3 rfl (N:=27) rfl 38 _ _ rfl ji6 rfl rfl Tryz.underlying38 (.int .i64 0) 8 info3 rfl (by decide) (by omega) 0 (ok:=fun _=>True) (okp:=fun _=>True) rfl (fun _ hk=>hk) trivial (of_decide_eq_true (by first|(with_reducible assumption)|assumption)) (Nat.le_trans (Nat.mul_le_mul_right _ (of_decide_eq_true (by first|(with_reducible assumption)|assumption):ji6.toNat≤35184372088832)) (by omega)) (Below.refl _ _) (Nat.le_refl _) ?_;intro v499 w16 ho17 hb hg_ hnew_;clear hg_ hnew_;(first|rw [← Ny498.out] at ho17|(simp only [Int.reduceToNat] at ho17;rw [← Ny498.out] at ho17));have n0_:=Zz.mk (Kd.R_below (by (with_reducible repeat first|apply Kd.R_alloc|apply Kd.R_drewN|apply Kd.R_drew);exact HO493.out) hb);have n1_:=Zz.mk (Kd.R_below (by (with_reducible repeat first|apply Kd.R_alloc|apply Kd.R_drewN|apply Kd.R_drew);exact HO497.out) hb);have n2_:=Zz.mk (Kd.R_lower ho17 (qZ (by repeat (first|(with_reducible first|exact HB.out|apply qA|apply qN|apply q1_|refine qS ?_ GE490.out)|exact HB.out))));have n3_:=Zz.mk (bB (g:=gb490) (o:=.cells #[.slice A0_0 l0_0.length c0_0] 31 (0,0)) (by (with_reducible repeat first|apply bN|apply bD|apply bA);exact BK490.out) hb);have n4_:=Zz.mk (qP (by repeat (first|(with_reducible first|exact HB.out|apply qA|apply qN|apply q1_|refine qS ?_ GE490.out)|exact HB.out)) hb);clear HO493;clear HO497;clear BK490;clear HB;have HO493:=n0_;have HO497:=n1_;have HO500:=n2_;have BK490:=n3_;have HB:=n4_;clear n0_ n1_ n2_ n3_ n4_;clear hb ho17));try go_wp2_with (first|((with_reducible refine gate_dst (N:=2) rfl ?_);refine box_event ?hg (N:=2) ?hd (cs:=#[.slice A0_0 l0_0.length c0_0]) (t:=31) ?hr ?_;(case hd=>rfl);(case hg=>rfl);(case hr=>first|(go_simp;done)|(go_simp;rfl));intro gb490 hg w9 hbox hb;have n0_:=Zz.mk (qP (by repeat (first|(with_reducible first|exact HB.out|apply qA|apply qN|apply q1_)|exact HB.out)) hb);have n1_:=Zz.mk (hbox);have n2_:=Zz.mk ((by rw [hg];exact (qZ (by repeat (first|(with_reducible first|exact HB.out|apply qA|apply qN|apply q1_)|exact HB.out))):w.heap.size≤gb490));have n3_:=Zz.mk ((by rw [hg];exact (qZ (by repeat (first|(with_reducible first|exact HB.out|apply qA|apply qN|apply q1_)|exact HB.out))):w.heap.size≤gb490));clear HB;have HB:=n0_;have BK490:=n1_;have GW490:=n2_;have GE490:=n3_;clear n0_ n1_ n2_ n3_;clear hb hbox hg)|((with_reducible refine gate_dst (N:=16) rfl ?_);refine Kd.R_lit Kd.string _ 9 ?hg (N:=16) ?hd (xs:=([]:List ByteArray)) (inner:=[]) (ok:=fun _=>True) (okp:=fun _=>True) ?hr ?hp (fun _ hk=>hk) trivial (Below.refl _ _) (Nat.le_refl _) (by simp) ?_;(case hd=>rfl);(case hg=>rfl);(case hr=>first|(go_simp;done)|(go_simp;rfl));(case hp=>exact (Reps.none _ _));intro v492 w10 ho11 hb hg_ hnew_;clear hg_ hnew_;(first|rw [← Ny491.out] at ho11|(simp only [Int.reduceToNat] at ho11;rw [← Ny491.out] at ho11));have n0_:=Zz.mk (Kd.R_lower ho11 (qZ (by repeat (first|(with_reducible first|exact HB.out|apply qA|apply qN|apply q1_|refine qS ?_ GE490.out)|exact HB.out))));have n1_:=Zz.mk (bB (g:=gb490) (o:=.cells #[.slice A0_0 l0_0.length c0_0] 31 (0,0)) (by (with_reducible repeat first|apply bN|apply bD|apply bA);exact BK490.out) hb);have n2_:=Zz.mk (qP (by repeat (first|(with_reducible first|exact HB.out|apply qA|apply qN|apply q1_|refine qS ?_ GE490.out)|exact HB.out)) hb);clear BK490;clear HB;have HO493:=n0_;have BK490:=n1_;have HB:=n2_;clear n0_ n1_ n2_;clear hb ho11;have hcz12_0:w10.cell? ⟨gb490,0,none⟩=some (.slice A0_0 l0_0.length c0_0):=(bC BK490.out 0).trans rfl;have hfz12_0:=bF BK490.out 0)|(go_at_call 26;(with_reducible refine (spec_l3Good.calls k _ _ l0_0 a1 true _ ?side1 ?side2 A3.out).mono ?_);(case side1=>repeat (first|exact (Kd.C_below HR0_0.out HB.out)|(with_reducible refine Kd.C_alloc ?_ _)|(with_reducible refine Kd.C_drewN ?_ _)|(with_reducible refine Kd.C_drew ?_)));(case side2=>exact HC0_0.out);rintro e w13 ⟨rfl,hb⟩;have n0_:=Zz.mk (Kd.R_below (by (with_reducible repeat first|apply Kd.R_alloc|apply Kd.R_drewN|apply Kd.R_drew);exact HO493.out) hb);have n1_:=Zz.mk (bB (g:=gb490) (o:=.cells #[.slice A0_0 l0_0.length c0_0] 31 (0,0)) (by (with_reducible repeat first|apply bN|apply bD|apply bA);exact BK490.out) hb);have n2_:=Zz.mk (qP (by repeat (first|(with_reducible first|exact HB.out|apply qA|apply qN|apply q1_|refine qS ?_ GE490.out)|exact HB.out)) hb);clear HO493;clear BK490;clear HB;have HO493:=n0_;have BK490:=n1_;have HB:=n2_;clear n0_ n1_ n2_;(try clear hb);(try clear hb2);(try clear hk);(try clear hi);have hcz14_0:w13.cell? ⟨gb490,0,none⟩=some (.slice A0_0 l0_0.length c0_0):=(bC BK490.out 0).trans rfl;have hfz14_0:=bF BK490.out 0)|(go_at_call 27;(with_reducible refine (spec_l2Words.calls k _ _ l0_0 t495 _ ?side1 ?side2 A5.out).mono ?_);(case side1=>repeat (first|exact (Kd.C_below HR0_0.out HB.out)|(with_reducible refine Kd.C_alloc ?_ _)|(with_reducible refine Kd.C_drewN ?_ _)|(with_reducible refine Kd.C_drew ?_)));(case side2=>exact HC0_0.out);rintro e w15 ⟨v496,rfl,ho0,hb⟩;have n0_:=Zz.mk (Kd.R_elder' (by (with_reducible repeat first|apply Kd.R_alloc|apply Kd.R_drewN|apply Kd.R_drew);exact HO493.out) (Kd.R_base ho0) hb);have n1_:=Zz.mk (Kd.R_lower (Kd.R_new' ho0 (Kd.R_lt (by (with_reducible repeat first|apply Kd.R_alloc|apply Kd.R_drewN|apply Kd.R_drew);exact HO493.out))) (qZ (by repeat (first|(with_reducible first|exact HB.out|apply qA|apply qN|apply q1_|refine qS ?_ GE490.out)|exact HB.out))));have n2_:=Zz.mk (bB (g:=gb490) (o:=.cells #[.slice A0_0 l0_0.length c0_0] 31 (0,0)) (by (with_reducible repeat first|apply bN|apply bD|apply bA);exact BK490.out) hb);have n3_:=Zz.mk (qP (by repeat (first|(with_reducible first|exact HB.out|apply qA|apply qN|apply q1_|refine qS ?_ GE490.out)|exact HB.out)) hb);clear HO493;clear BK490;clear HB;have HO493:=n0_;have HO497:=n1_;have BK490:=n2_;have HB:=n3_;clear n0_ n1_ n2_ n3_;(try clear hb);(try clear hb2);(try clear hk);(try clear hi);(try clear ho0))|((with_reducible refine gate_dst (N:=27) rfl ?_);refine Kd.R_make (Kd.int .i64) _ 3 rfl (N:=27) rfl 38 _ _ rfl ji6 rfl rfl Tryz.underlying38 (.int .i64 0) 8 info3 rfl (by decide) (by omega) 0 (ok:=fun _=>True) (okp:=fun _=>True) rfl (fun _ hk=>hk) trivial (of_decide_eq_true (by first|(with_reducible assumption)|assumption)) (Nat.le_trans (Nat.mul_le_mul_right _ (of_decide_eq_true (by first|(with_reducible assumption)|assumption):ji6.toNat≤35184372088832)) (by omega)) (Below.refl _ _) (Nat.le_refl _) ?_;intro v499 w16 ho17 hb hg_ hnew_;clear hg_ hnew_;(first|rw [← Ny498.out] at ho17|(simp only [Int.reduceToNat] at ho17;rw [← Ny498.out] at ho17));have n0_:=Zz.mk (Kd.R_below (by (with_reducible repeat first|apply Kd.R_alloc|apply Kd.R_drewN|apply Kd.R_drew);exact HO493.out) hb);have n1_:=Zz.mk (Kd.R_below (by (with_reducible repeat first|apply Kd.R_alloc|apply Kd.R_drewN|apply Kd.R_drew);exact HO497.out) hb);have n2_:=Zz.mk (Kd.R_lower ho17 (qZ (by repeat (first|(with_reducible first|exact HB.out|apply qA|apply qN|apply q1_|refine qS ?_ GE490.out)|exact HB.out))));have n3_:=Zz.mk (bB (g:=gb490) (o:=.cells #[.slice A0_0 l0_0.length c0_0] 31 (0,0)) (by (with_reducible repeat first|apply bN|apply bD|apply bA);exact BK490.out) hb);have n4_:=Zz.mk (qP (by repeat (first|(with_reducible first|exact HB.out|apply qA|apply qN|apply q1_|refine qS ?_ GE490.out)|exact HB.out)) hb);clear HO493;clear HO497;clear BK490;clear HB;have HO493:=n0_;have HO497:=n1_;have HO500:=n2_;have BK490:=n3_;have HB:=n4_;clear n0_ n1_ n2_ n3_ n4_;clear hb ho17)))
    go_loopg [9] k (fun kq v9 w'=>∃ (x8_1:List Int) (x9_1:Int),v9=.int .i64 x9_1∧Zz (spec_BestSplit.l0 kq a1 y491 t495 x8_1 x9_1=some (r1,r2))∧Zz (kq≤k)∧Zz (Kd.R Kd.string 9 w' w.heap.size (fun k_=>some k_ ≠ (v496:Value).ownBlock) v492 y491)∧Zz (Kd.R Kd.string 9 w' w.heap.size (fun k_=>some k_ ≠ (v492:Value).ownBlock) v496 t495)∧Zz (Kd.R (Kd.int .i64) 3 w' w.heap.size (fun _=>True) v499 x8_1)∧Zz (w'.heap[gb490]?=some (.cells #[(.slice A0_0 l0_0.length c0_0)] 31 (0,0)))∧Zz (Below w.heap.size w w'))
    case atStart=>exact ⟨(y498),(wrap64 ((a1.size:Int) - 1)),(by first|rfl|(simp;done)|(simp [*];done)),H',⟨Nat.le_refl _⟩,⟨by (with_reducible repeat first|apply Kd.R_alloc|apply Kd.R_drewN|apply Kd.R_drew);exact Kd.R_mono HO493.out (fun _ hk=>hk.2)⟩,⟨by (with_reducible repeat first|apply Kd.R_alloc|apply Kd.R_drewN|apply Kd.R_drew);exact Kd.R_mono HO497.out (fun _ hk=>hk.2)⟩,⟨by (with_reducible repeat first|apply Kd.R_alloc|apply Kd.R_drewN|apply Kd.R_drew);exact HO500.out⟩,⟨by (with_reducible repeat first|apply bN|apply bD|apply bA);exact BK490.out⟩,⟨by repeat (first|(with_reducible first|exact HB.out|apply qA|apply qN|apply q1_|refine qS ?_ GE490.out)|exact HB.out)⟩⟩
    case round =>
     clear H'
     try clear c2
     try clear p2
     try clear c4
     try clear p6
     try clear c7
     try clear c7b0
     try clear c7b1
     try clear c8
     try clear c8b0
     try clear c8b1
     try clear hcz12_0
     try clear hcz14_0
     try clear hfz12_0
     try clear hfz14_0
     obtain ⟨x8_1,x9_1,rfl,HA,HK1,HO_6,HO_7,HO_8,BK490,HB⟩:=hrel
     cases gk with
     | zero=>exact absurd HA.out (by simp [spec_BestSplit.l0])
     | succ k1 =>
      have H:=HA.out
      clear HA
      simp only [spec_BestSplit.l0] at H
      by_cases c18:x9_1 ≥ 0
      ·rw [if_pos c18] at H
       have c18b0:decide (0≤x9_1)=true:=decide_eq_true c18
       clear c18
       by_cases c19:0≤x9_1
       ·rw [if_pos c19] at H
        have c19b0:decide (0≤x9_1)=true:=decide_eq_true c19
        clear c19
        by_cases c20:x9_1<(x8_1.length:Int)
        ·rw [if_pos c20] at H
         have c20b0:decide (x9_1<(x8_1.length:Int))=true:=decide_eq_true c20
         clear c20
         obtain ⟨y501,hy501⟩:∃ y_:List Int,y_=(x8_1.set (x9_1:Int).toNat (-1)):=⟨_,rfl⟩
         replace H:((spec_l3Matches.f k1 t495 a1 x9_1).bind fun t502=>(spec_BestSplit.l1 k1 a1 y491 t495 y501 x9_1 t502 0))=some (r1,r2):=by first|(rw [hy501];with_reducible exact H)|(have H2_:=(Option.bind_some _ _).symm.trans H;rw [hy501];with_reducible exact H2_)|(have H2_:=(Option.bind_some _ _).symm.trans H;with_reducible exact H2_)|with_reducible exact H|(rw [hy501];exact H)|exact H
         have Ny501:=Zz.mk hy501
         clear hy501
         replace H:=Option.bind_eq_some_iff.mp H
         obtain ⟨t502,A220,H⟩:=H
         replace H:(spec_BestSplit.l1 k1 a1 y491 t495 y501 x9_1 t502 0)=some (r1,r2):=H
         have A22:=Zz.mk A220
         clear A220
         have H':=Zz.mk H
         clear H
         have p21:0≤(x9_1:Int):=of_decide_eq_true (by first|(with_reducible assumption)|assumption)
         have q21:(x9_1:Int)<((x8_1.length:Int):Int):=of_decide_eq_true (by first|(with_reducible assumption)|assumption)
         obtain ⟨go21,co21,eo21,gb21,gl21,cl21,HG21⟩:=Kd.R_form HO_8.out (by omega)
         (first|cases eo21|(injection eo21 with ea_ en_ ec_;(first|subst ea_|(injection ea_ with ea_;subst ea_));subst ec_;clear en_))
         have GB21:=Zz.mk gb21
         have GG21:=Zz.mk HG21
         clear gb21 gl21 HG21
         obtain ⟨hx21_0,hf21_0⟩:=Kd.R_celln 0 HO_8.out (x9_1:Int) p21 q21
         (try simp only [Int.toNat_natCast] at hx21_0 hf21_0)
         replace p21:=eq_true p21
         replace q21:=eq_true q21
         have HP23:=Kd.R_putg HO_8.out (x9_1:Int) (-1)
         go_wp2_with (first|((with_reducible refine gate_store (t:=3) (p:=37) rfl ?_);(try (rw [drewN_self wr];generalize hq_:World.drewN wr _=wr;have n0_:=Zz.mk (Kd.R_at hq_ HO_6.out);have n1_:=Zz.mk (Kd.R_at hq_ HO_7.out);have n2_:=Zz.mk (Kd.R_at hq_ HO_8.out);have n3_:=Zz.mk (blk_at hq_ BK490.out);have n4_:=Zz.mk (below_at hq_ HB.out);clear hq_ HO_6 HO_7 HO_8 BK490 HB;have HO_6:=n0_;have HO_7:=n1_;have HO_8:=n2_;have BK490:=n3_;have HB:=n4_;clear n0_ n1_ n2_ n3_ n4_;(try (have HP23:=Kd.R_putg HO_8.out (x9_1:Int) (-1)))));refine store_event (t:=3) (p:=37) (v:=?vo_w24) (w1:=(wr.setCell ⟨go21,(x9_1:Int).toNat,none⟩ (.int .i64 (-1)))) ?hg ?ho ?hn ?hr ?_;(case ho=>rfl);(case hg=>rfl);(case hn=>rfl);(case hr=>first|(go_simp;done)|(go_simp;rfl));intro w24 hw;have hg:wr.grownBy w24 (some go21):=(by rw [hw];exact HP23.2);have hp_:Kd.R (Kd.int .i64) 3 w24 w.heap.size (fun _=>True) (.slice (some ⟨go21,0,none⟩) x8_1.length co21) y501:=(by rw [hw,Ny501.out];exact HP23.1);clear HP23;have n0_:=Zz.mk (Kd.R_over' (v:=(.slice (some ⟨go21,0,none⟩) x8_1.length co21)) (by (with_reducible repeat first|apply Kd.R_alloc|apply Kd.R_drewN|apply Kd.R_drew);exact HO_6.out) (Kd.R_typed HO_8.out) (by decide) hg);have n1_:=Zz.mk (Kd.R_over' (v:=(.slice (some ⟨go21,0,none⟩) x8_1.length co21)) (by (with_reducible repeat first|apply Kd.R_alloc|apply Kd.R_drewN|apply Kd.R_drew);exact HO_7.out) (Kd.R_typed HO_8.out) (by decide) hg);have n2_:=Zz.mk (hp_);have n3_:=Zz.mk (blk_grown (g:=gb490) (o:=.cells #[.slice A0_0 l0_0.length c0_0] 31 (0,0)) (by (with_reducible repeat first|apply bN|apply bD|apply bA);exact BK490.out) hg (Kd.R_ne HO_8.out BK490.out (by decide)));have n4_:=Zz.mk ((by rw [hw];exact qS (HB.out) GB21.out:Below w.heap.size w w24));clear HO_6;clear HO_7;clear HO_8;clear BK490;clear HB;have HO_6:=n0_;have HO_7:=n1_;have HO_8:=n2_;have BK490:=n3_;have HB:=n4_;clear n0_ n1_ n2_ n3_ n4_;clear hg hw hp_;obtain ⟨Ao25,co25,eo25⟩:=Kd.R_slice HO_7.out;subst eo25)|(go_at_call 28;(with_reducible refine (spec_l3Matches.calls k1 _ _ t495 a1 x9_1 t502 _ ?side1 ?side2 A22.out).mono ?_);(case side1=>repeat (first|exact (Kd.R_reads' HO_7.out).2.2|(with_reducible refine Kd.C_alloc ?_ _)|(with_reducible refine Kd.C_drewN ?_ _)|(with_reducible refine Kd.C_drew ?_)));(case side2=>exact (Kd.R_reads' HO_7.out).2.1);rintro e w26 ⟨v503,rfl,ho0,hb⟩;have n0_:=Zz.mk (Kd.R_below (by (with_reducible repeat first|apply Kd.R_alloc|apply Kd.R_drewN|apply Kd.R_drew);exact HO_6.out) hb);have n1_:=Zz.mk (Kd.R_below (by (with_reducible repeat first|apply Kd.R_alloc|apply Kd.R_drewN|apply Kd.R_drew);exact HO_7.out) hb);have n2_:=Zz.mk (Kd.R_below (by (with_reducible repeat first|apply Kd.R_alloc|apply Kd.R_drewN|apply Kd.R_drew);exact HO_8.out) hb);have n3_:=Zz.mk (Kd.V_lower (Kd.V_mono (ok':=fun k_=>some k_ ≠ (v492:Value).ownBlock∧some k_ ≠ (.slice Ao25 t495.length co25:Value).ownBlock∧some k_ ≠ (.slice (some ⟨go21,0,none⟩) x8_1.length co21:Value).ownBlock∧k_ ≠ gb490) ho0 (fun k_ hk_=>⟨(Kd.fresh' (Kd.R_lt (by (with_reducible repeat first|apply Kd.R_alloc|apply Kd.R_drewN|apply Kd.R_drew);exact HO_6.out)) k_ hk_),(Kd.fresh' (Kd.R_lt (by (with_reducible repeat first|apply Kd.R_alloc|apply Kd.R_drewN|apply Kd.R_drew);exact HO_7.out)) k_ hk_),(Kd.fresh' (Kd.R_lt (by (with_reducible repeat first|apply Kd.R_alloc|apply Kd.R_drewN|apply Kd.R_drew);exact HO_8.out)) k_ hk_),(Kd.freshB (g:=gb490) (o:=.cells #[.slice A0_0 l0_0.length c0_0] 31 (0,0)) (by (with_reducible repeat first|apply bN|apply bD|apply bA);exact BK490.out) k_ hk_)⟩)) (qZ (by repeat (first|(with_reducible first|exact HB.out|apply qA|apply qN|apply q1_|refine qS ?_ GE490.out)|exact HB.out))));have n4_:=Zz.mk (bB (g:=gb490) (o:=.cells #[.slice A0_0 l0_0.length c0_0] 31 (0,0)) (by (with_reducible repeat first|apply bN|apply bD|apply bA);exact BK490.out) hb);have n5_:=Zz.mk (qP (by repeat (first|(with_reducible first|exact HB.out|apply qA|apply qN|apply q1_|refine qS ?_ GE490.out)|exact HB.out)) hb);clear HO_6;clear HO_7;clear HO_8;clear BK490;clear HB;have HO_6:=n0_;have HO_7:=n1_;have HO_8:=n2_;have HO504:=n3_;have BK490:=n4_;have HB:=n5_;clear n0_ n1_ n2_ n3_ n4_ n5_;(try clear hb);(try clear hb2);(try clear hk);(try clear hi);(try clear ho0)))
         repeat (go_quiet (first|((with_reducible refine gate_store (t:=3) (p:=37) rfl ?_);(try (rw [drewN_self wr];generalize hq_:World.drewN wr _=wr;have n0_:=Zz.mk (Kd.R_at hq_ HO_6.out);have n1_:=Zz.mk (Kd.R_at hq_ HO_7.out);have n2_:=Zz.mk (Kd.R_at hq_ HO_8.out);have n3_:=Zz.mk (blk_at hq_ BK490.out);have n4_:=Zz.mk (below_at hq_ HB.out);clear hq_ HO_6 HO_7 HO_8 BK490 HB;have HO_6:=n0_;have HO_7:=n1_;have HO_8:=n2_;have BK490:=n3_;have HB:=n4_;clear n0_ n1_ n2_ n3_ n4_;(try (have HP23:=Kd.R_putg HO_8.out (x9_1:Int) (-1)))));refine store_event (t:=3) (p:=37) (v:=?vo_w24) (w1:=(wr.setCell ⟨go21,(x9_1:Int).toNat,none⟩ (.int .i64 (-1)))) ?hg ?ho ?hn ?hr ?_;(case ho=>rfl);(case hg=>rfl);(case hn=>rfl);(case hr=>first|(go_simp;done)|(go_simp;rfl));intro w24 hw;have hg:wr.grownBy w24 (some go21):=(by rw [hw];exact HP23.2);have hp_:Kd.R (Kd.int .i64) 3 w24 w.heap.size (fun _=>True) (.slice (some ⟨go21,0,none⟩) x8_1.length co21) y501:=(by rw [hw,Ny501.out];exact HP23.1);clear HP23;have n0_:=Zz.mk (Kd.R_over' (v:=(.slice (some ⟨go21,0,none⟩) x8_1.length co21)) (by (with_reducible repeat first|apply Kd.R_alloc|apply Kd.R_drewN|apply Kd.R_drew);exact HO_6.out) (Kd.R_typed HO_8.out) (by decide) hg);have n1_:=Zz.mk (Kd.R_over' (v:=(.slice (some ⟨go21,0,none⟩) x8_1.length co21)) (by (with_reducible repeat first|apply Kd.R_alloc|apply Kd.R_drewN|apply Kd.R_drew);exact HO_7.out) (Kd.R_typed HO_8.out) (by decide) hg);have n2_:=Zz.mk (hp_);have n3_:=Zz.mk (blk_grown (g:=gb490) (o:=.cells #[.slice A0_0 l0_0.length c0_0] 31 (0,0)) (by (with_reducible repeat first|apply bN|apply bD|apply bA);exact BK490.out) hg (Kd.R_ne HO_8.out BK490.out (by decide)));have n4_:=Zz.mk ((by rw [hw];exact qS (HB.out) GB21.out:Below w.heap.size w w24));clear HO_6;clear HO_7;clear HO_8;clear BK490;clear HB;have HO_6:=n0_;have HO_7:=n1_;have HO_8:=n2_;have BK490:=n3_;have HB:=n4_;clear n0_ n1_ n2_ n3_ n4_;clear hg hw hp_;obtain ⟨Ao25,co25,eo25⟩:=Kd.R_slice HO_7.out;subst eo25)|(go_at_call 28;(with_reducible refine (spec_l3Matches.calls k1 _ _ t495 a1 x9_1 t502 _ ?side1 ?side2 A22.out).mono ?_);(case side1=>repeat (first|exact (Kd.R_reads' HO_7.out).2.2|(with_reducible refine Kd.C_alloc ?_ _)|(with_reducible refine Kd.C_drewN ?_ _)|(with_reducible refine Kd.C_drew ?_)));(case side2=>exact (Kd.R_reads' HO_7.out).2.1);rintro e w26 ⟨v503,rfl,ho0,hb⟩;have n0_:=Zz.mk (Kd.R_below (by (with_reducible repeat first|apply Kd.R_alloc|apply Kd.R_drewN|apply Kd.R_drew);exact HO_6.out) hb);have n1_:=Zz.mk (Kd.R_below (by (with_reducible repeat first|apply Kd.R_alloc|apply Kd.R_drewN|apply Kd.R_drew);exact HO_7.out) hb);have n2_:=Zz.mk (Kd.R_below (by (with_reducible repeat first|apply Kd.R_alloc|apply Kd.R_drewN|apply Kd.R_drew);exact HO_8.out) hb);have n3_:=Zz.mk (Kd.V_lower (Kd.V_mono (ok':=fun k_=>some k_ ≠ (v492:Value).ownBlock∧some k_ ≠ (.slice Ao25 t495.length co25:Value).ownBlock∧some k_ ≠ (.slice (some ⟨go21,0,none⟩) x8_1.length co21:Value).ownBlock∧k_ ≠ gb490) ho0 (fun k_ hk_=>⟨(Kd.fresh' (Kd.R_lt (by (with_reducible repeat first|apply Kd.R_alloc|apply Kd.R_drewN|apply Kd.R_drew);exact HO_6.out)) k_ hk_),(Kd.fresh' (Kd.R_lt (by (with_reducible repeat first|apply Kd.R_alloc|apply Kd.R_drewN|apply Kd.R_drew);exact HO_7.out)) k_ hk_),(Kd.fresh' (Kd.R_lt (by (with_reducible repeat first|apply Kd.R_alloc|apply Kd.R_drewN|apply Kd.R_drew);exact HO_8.out)) k_ hk_),(Kd.freshB (g:=gb490) (o:=.cells #[.slice A0_0 l0_0.length c0_0] 31 (0,0)) (by (with_reducible repeat first|apply bN|apply bD|apply bA);exact BK490.out) k_ hk_)⟩)) (qZ (by repeat (first|(with_reducible first|exact HB.out|apply qA|apply qN|apply q1_|refine qS ?_ GE490.out)|exact HB.out))));have n4_:=Zz.mk (bB (g:=gb490) (o:=.cells #[.slice A0_0 l0_0.length c0_0] 31 (0,0)) (by (with_reducible repeat first|apply bN|apply bD|apply bA);exact BK490.out) hb);have n5_:=Zz.mk (qP (by repeat (first|(with_reducible first|exact HB.out|apply qA|apply qN|apply q1_|refine qS ?_ GE490.out)|exact HB.out)) hb);clear HO_6;clear HO_7;clear HO_8;clear BK490;clear HB;have HO_6:=n0_;have HO_7:=n1_;have HO_8:=n2_;have HO504:=n3_;have BK490:=n4_;have HB:=n5_;clear n0_ n1_ n2_ n3_ n4_ n5_;(try clear hb);(try clear hb2);(try clear hk);(try clear hi);(try clear ho0)));try go_wp2_with (first|((with_reducible refine gate_store (t:=3) (p:=37) rfl ?_);(try (rw [drewN_self wr];generalize hq_:World.drewN wr _=wr;have n0_:=Zz.mk (Kd.R_at hq_ HO_6.out);have n1_:=Zz.mk (Kd.R_at hq_ HO_7.out);have n2_:=Zz.mk (Kd.R_at hq_ HO_8.out);have n3_:=Zz.mk (blk_at hq_ BK490.out);have n4_:=Zz.mk (below_at hq_ HB.out);clear hq_ HO_6 HO_7 HO_8 BK490 HB;have HO_6:=n0_;have HO_7:=n1_;have HO_8:=n2_;have BK490:=n3_;have HB:=n4_;clear n0_ n1_ n2_ n3_ n4_;(try (have HP23:=Kd.R_putg HO_8.out (x9_1:Int) (-1)))));refine store_event (t:=3) (p:=37) (v:=?vo_w24) (w1:=(wr.setCell ⟨go21,(x9_1:Int).toNat,none⟩ (.int .i64 (-1)))) ?hg ?ho ?hn ?hr ?_;(case ho=>rfl);(case hg=>rfl);(case hn=>rfl);(case hr=>first|(go_simp;done)|(go_simp;rfl));intro w24 hw;have hg:wr.grownBy w24 (some go21):=(by rw [hw];exact HP23.2);have hp_:Kd.R (Kd.int .i64) 3 w24 w.heap.size (fun _=>True) (.slice (some ⟨go21,0,none⟩) x8_1.length co21) y501:=(by rw [hw,Ny501.out];exact HP23.1);clear HP23;have n0_:=Zz.mk (Kd.R_over' (v:=(.slice (some ⟨go21,0,none⟩) x8_1.length co21)) (by (with_reducible repeat first|apply Kd.R_alloc|apply Kd.R_drewN|apply Kd.R_drew);exact HO_6.out) (Kd.R_typed HO_8.out) (by decide) hg);have n1_:=Zz.mk (Kd.R_over' (v:=(.slice (some ⟨go21,0,none⟩) x8_1.length co21)) (by (with_reducible repeat first|apply Kd.R_alloc|apply Kd.R_drewN|apply Kd.R_drew);exact HO_7.out) (Kd.R_typed HO_8.out) (by decide) hg);have n2_:=Zz.mk (hp_);have n3_:=Zz.mk (blk_grown (g:=gb490) (o:=.cells #[.slice A0_0 l0_0.length c0_0] 31 (0,0)) (by (with_reducible repeat first|apply bN|apply bD|apply bA);exact BK490.out) hg (Kd.R_ne HO_8.out BK490.out (by decide)));have n4_:=Zz.mk ((by rw [hw];exact qS (HB.out) GB21.out:Below w.heap.size w w24));clear HO_6;clear HO_7;clear HO_8;clear BK490;clear HB;have HO_6:=n0_;have HO_7:=n1_;have HO_8:=n2_;have BK490:=n3_;have HB:=n4_;clear n0_ n1_ n2_ n3_ n4_;clear hg hw hp_;obtain ⟨Ao25,co25,eo25⟩:=Kd.R_slice HO_7.out;subst eo25)|(go_at_call 28;(with_reducible refine (spec_l3Matches.calls k1 _ _ t495 a1 x9_1 t502 _ ?side1 ?side2 A22.out).mono ?_);(case side1=>repeat (first|exact (Kd.R_reads' HO_7.out).2.2|(with_reducible refine Kd.C_alloc ?_ _)|(with_reducible refine Kd.C_drewN ?_ _)|(with_reducible refine Kd.C_drew ?_)));(case side2=>exact (Kd.R_reads' HO_7.out).2.1);rintro e w26 ⟨v503,rfl,ho0,hb⟩;have n0_:=Zz.mk (Kd.R_below (by (with_reducible repeat first|apply Kd.R_alloc|apply Kd.R_drewN|apply Kd.R_drew);exact HO_6.out) hb);have n1_:=Zz.mk (Kd.R_below (by (with_reducible repeat first|apply Kd.R_alloc|apply Kd.R_drewN|apply Kd.R_drew);exact HO_7.out) hb);have n2_:=Zz.mk (Kd.R_below (by (with_reducible repeat first|apply Kd.R_alloc|apply Kd.R_drewN|apply Kd.R_drew);exact HO_8.out) hb);have n3_:=Zz.mk (Kd.V_lower (Kd.V_mono (ok':=fun k_=>some k_ ≠ (v492:Value).ownBlock∧some k_ ≠ (.slice Ao25 t495.length co25:Value).ownBlock∧some k_ ≠ (.slice (some ⟨go21,0,none⟩) x8_1.length co21:Value).ownBlock∧k_ ≠ gb490) ho0 (fun k_ hk_=>⟨(Kd.fresh' (Kd.R_lt (by (with_reducible repeat first|apply Kd.R_alloc|apply Kd.R_drewN|apply Kd.R_drew);exact HO_6.out)) k_ hk_),(Kd.fresh' (Kd.R_lt (by (with_reducible repeat first|apply Kd.R_alloc|apply Kd.R_drewN|apply Kd.R_drew);exact HO_7.out)) k_ hk_),(Kd.fresh' (Kd.R_lt (by (with_reducible repeat first|apply Kd.R_alloc|apply Kd.R_drewN|apply Kd.R_drew);exact HO_8.out)) k_ hk_),(Kd.freshB (g:=gb490) (o:=.cells #[.slice A0_0 l0_0.length c0_0] 31 (0,0)) (by (with_reducible repeat first|apply bN|apply bD|apply bA);exact BK490.out) k_ hk_)⟩)) (qZ (by repeat (first|(with_reducible first|exact HB.out|apply qA|apply qN|apply q1_|refine qS ?_ GE490.out)|exact HB.out))));have n4_:=Zz.mk (bB (g:=gb490) (o:=.cells #[.slice A0_0 l0_0.length c0_0] 31 (0,0)) (by (with_reducible repeat first|apply bN|apply bD|apply bA);exact BK490.out) hb);have n5_:=Zz.mk (qP (by repeat (first|(with_reducible first|exact HB.out|apply qA|apply qN|apply q1_|refine qS ?_ GE490.out)|exact HB.out)) hb);clear HO_6;clear HO_7;clear HO_8;clear BK490;clear HB;have HO_6:=n0_;have HO_7:=n1_;have HO_8:=n2_;have HO504:=n3_;have BK490:=n4_;have HB:=n5_;clear n0_ n1_ n2_ n3_ n4_ n5_;(try clear hb);(try clear hb2);(try clear hk);(try clear hi);(try clear ho0))))
         go_loopg [11] k1 (fun kq v11 w'=>∃ (x8_2:List Int) (x11_2:Int),v11=.int .i64 x11_2∧Zz (spec_BestSplit.l1 kq a1 y491 t495 x8_2 x9_1 t502 x11_2=some (r1,r2))∧Zz (kq≤k1)∧Zz (Kd.R Kd.string 9 w' w.heap.size (fun k_=>some k_ ≠ ((.slice Ao25 t495.length co25):Value).ownBlock) v492 y491)∧Zz (Kd.R Kd.string 9 w' w.heap.size (fun k_=>some k_ ≠ (v492:Value).ownBlock) (.slice Ao25 t495.length co25) t495)∧Zz (Kd.R (Kd.int .i64) 3 w' w.heap.size (fun _=>True) (.slice (some ⟨go21,0,none⟩) x8_1.length co21) x8_2)∧Zz (Kd.V (Kd.int .i64) 3 w' w.heap.size (fun k_=>some k_ ≠ (v492:Value).ownBlock∧some k_ ≠ ((.slice Ao25 t495.length co25):Value).ownBlock∧some k_ ≠ ((.slice (some ⟨go21,0,none⟩) x8_1.length co21):Value).ownBlock∧k_ ≠ gb490) v503 t502)∧Zz (w'.heap[gb490]?=some (.cells #[(.slice A0_0 l0_0.length c0_0)] 31 (0,0)))∧Zz (Below w.heap.size w w'))
         case atStart=>exact ⟨(y501),(0),(by first|rfl|(simp;done)|(simp [*];done)),H',⟨Nat.le_refl _⟩,⟨by (with_reducible repeat first|apply Kd.R_alloc|apply Kd.R_drewN|apply Kd.R_drew);exact HO_6.out⟩,⟨by (with_reducible repeat first|apply Kd.R_alloc|apply Kd.R_drewN|apply Kd.R_drew);exact HO_7.out⟩,⟨by (with_reducible repeat first|apply Kd.R_alloc|apply Kd.R_drewN|apply Kd.R_drew);exact HO_8.out⟩,⟨by (with_reducible repeat (first|apply Kd.V_alloc|apply Kd.V_drewN|apply Kd.V_drew));exact HO504.out⟩,⟨by (with_reducible repeat first|apply bN|apply bD|apply bA);exact BK490.out⟩,⟨by repeat (first|(with_reducible first|exact HB.out|apply qA|apply qN|apply q1_|refine qS ?_ GE490.out)|exact HB.out)⟩⟩
         case round =>
          clear H'
          try clear c1
          try clear c2
          try clear p2
          try clear q2
          try clear hx2
          try clear hf2
          try clear c4
          try clear p6
          try clear c7
          try clear c7b0
          try clear c7b1
          try clear c8
          try clear c8b0
          try clear c8b1
          try clear c18
          try clear c18b0
          try clear c19
          try clear c19b0
          try clear c20
          try clear c20b0
          try clear p21
          try clear q21
          try clear hx21
          try clear hf21
          try clear hcz12_0
          try clear hcz14_0
          try clear hfz12_0
          try clear hfz14_0
          try clear hx21_0
          try clear p2
          try clear p21
          try clear p6
          try clear q21
          obtain ⟨x8_2,x11_2,rfl,HA,HK2,HO_6,HO_7,HO_8,HO_10,BK490,HB⟩:=hrel
          have hl8_2:=(Kd.R_reads' HO_8.out).1
          rw [hl8_2] at HO_8
          (try simp only [hl8_2])
          (try simp only [hl8_2] at BK490)
          (try simp only [hl8_2] at HO_6)
          (try simp only [hl8_2] at HO_7)
          (try simp only [hl8_2] at HO_10)
          cases gk with
          | zero=>exact absurd HA.out (by simp [spec_BestSplit.l1])
          | succ k2 =>
           have H:=HA.out
           clear HA
           simp only [spec_BestSplit.l1] at H
           by_cases c27:x11_2<(t502.length:Int)
           ·rw [if_pos c27] at H
            have c27b0:decide (x11_2<(t502.length:Int))=true:=decide_eq_true c27
            clear c27
            by_cases c28:0≤x11_2
            ·rw [if_pos c28] at H
             have c28b0:decide (0≤x11_2)=true:=decide_eq_true c28
             clear c28
             obtain ⟨ji29,hji29⟩:∃ j_:Int,(wrap64 (x9_1+(rd t502 x11_2)))=j_:=⟨_,rfl⟩
             replace H:(if 0≤(ji29) then (if (ji29)<(x8_2.length:Int) then (if (rd x8_2 (ji29)) ≥ 0 then (if 0≤x9_1 then (if x9_1<(x8_2.length:Int) then (if (rd x8_2 x9_1)<0 then (spec_BestSplit.l1 k2 a1 y491 t495 (x8_2.set (x9_1:Int).toNat (wrap64 ((rd x8_2 (ji29))+1))) x9_1 t502 (wrap64 (x11_2+1))) else (if (wrap64 ((rd x8_2 (ji29))+1))<(rd x8_2 x9_1) then (spec_BestSplit.l1 k2 a1 y491 t495 (x8_2.set (x9_1:Int).toNat (wrap64 ((rd x8_2 (ji29))+1))) x9_1 t502 (wrap64 (x11_2+1))) else (spec_BestSplit.l1 k2 a1 y491 t495 x8_2 x9_1 t502 (wrap64 (x11_2+1))))) else (none)) else (none)) else (spec_BestSplit.l1 k2 a1 y491 t495 x8_2 x9_1 t502 (wrap64 (x11_2+1)))) else (none)) else (none))=some (r1,r2):=by first|(rw [hji29] at H;exact H)|(simp only [hji29] at H ⊢;exact H)
             have hji29w:(IntKind.i64.wrap (x9_1+(rd t502 x11_2)))=ji29:=(i64_w _).trans hji29
             by_cases c30:0≤(ji29)
             ·rw [if_pos c30] at H
              have c30b0:decide (0≤(ji29))=true:=decide_eq_true c30
              clear c30
              by_cases c31:(ji29)<(x8_2.length:Int)
              ·rw [if_pos c31] at H
               have c31b0:decide ((ji29)<(x8_2.length:Int))=true:=decide_eq_true c31
               clear c31
               by_cases c32:(rd x8_2 (ji29)) ≥ 0
               ·rw [if_pos c32] at H
                have c32b0:decide (0≤(rd x8_2 (ji29)))=true:=decide_eq_true c32
                clear c32
                by_cases c33:0≤x9_1
                ·rw [if_pos c33] at H
                 have c33b0:decide (0≤x9_1)=true:=decide_eq_true c33
                 clear c33
                 by_cases c34:x9_1<(x8_2.length:Int)
                 ·rw [if_pos c34] at H
                  have c34b0:decide (x9_1<(x8_2.length:Int))=true:=decide_eq_true c34
                  clear c34
                  by_cases c35:(rd x8_2 x9_1)<0
                  ·rw [if_pos c35] at H
                   have c35b0:decide ((rd x8_2 x9_1)<0)=true:=decide_eq_true c35
                   clear c35
                   obtain ⟨y508,hy508⟩:∃ y_:List Int,y_=(x8_2.set (x9_1:Int).toNat (wrap64 ((rd x8_2 (ji29))+1))):=⟨_,rfl⟩
                   replace H:(spec_BestSplit.l1 k2 a1 y491 t495 y508 x9_1 t502 (wrap64 (x11_2+1)))=some (r1,r2):=by first|(rw [hy508];with_reducible exact H)|(have H2_:=(Option.bind_some _ _).symm.trans H;rw [hy508];with_reducible exact H2_)|(have H2_:=(Option.bind_some _ _).symm.trans H;with_reducible exact H2_)|with_reducible exact H|(rw [hy508];exact H)|exact H
                   have Ny508:=Zz.mk hy508
                   clear hy508
                   have H':=Zz.mk H
                   clear H
                   obtain ⟨Ao37,co37,eo37⟩:=Kd.V_slice HO_10.out
                   subst eo37
                   have p505:0≤(x11_2:Int):=of_decide_eq_true (by first|(with_reducible assumption)|assumption)
                   have q505:x11_2<(t502.length:Int):=of_decide_eq_true (by first|(with_reducible assumption)|assumption)
                   obtain ⟨ad505,e505,hx505_0⟩:=Kd.at_int (Kd.V_reads' HO_10.out).2.2 x11_2 p505 q505
                   cases e505
                   replace p505:=eq_true p505
                   replace q505:=eq_true q505
                   have p506:0≤((ji29):Int):=of_decide_eq_true (by first|(with_reducible assumption)|assumption)
                   have q506:(ji29)<(x8_2.length:Int):=of_decide_eq_true (by first|(with_reducible assumption)|assumption)
                   obtain ⟨ad506,e506,hx506_0⟩:=Kd.at_int (Kd.R_reads' HO_8.out).2.2 (ji29) p506 q506
                   obtain rfl:(⟨go21,0,none⟩:Addr)=ad506:=(by injection e506)
                   (first|simp only [add_plain] at hx506_0|simp only [add_at] at hx506_0|simp only [Addr.add,Nat.zero_add] at hx506_0|skip)
                   replace p506:=eq_true p506
                   replace q506:=eq_true q506
                   have p507:0≤(x9_1:Int):=of_decide_eq_true (by first|(with_reducible assumption)|assumption)
                   have q507:x9_1<(x8_2.length:Int):=of_decide_eq_true (by first|(with_reducible assumption)|assumption)
                   obtain ⟨ad507,e507,hx507_0⟩:=Kd.at_int (Kd.R_reads' HO_8.out).2.2 x9_1 p507 q507
                   obtain rfl:(⟨go21,0,none⟩:Addr)=ad507:=(by injection e507)
                   (first|simp only [add_plain] at hx507_0|simp only [add_at] at hx507_0|simp only [Addr.add,Nat.zero_add] at hx507_0|skip)
                   replace p507:=eq_true p507
                   replace q507:=eq_true q507
                   have p36:0≤(x9_1:Int):=of_decide_eq_true (by first|(with_reducible assumption)|assumption)
                   have q36:(x9_1:Int)<((x8_2.length:Int):Int):=of_decide_eq_true (by first|(with_reducible assumption)|assumption)
                   obtain ⟨hx36_0,hf36_0⟩:=Kd.R_celln 0 HO_8.out (x9_1:Int) p36 q36
                   (try simp only [Int.toNat_natCast] at hx36_0 hf36_0)
                   replace p36:=eq_true p36
                   replace q36:=eq_true q36
                   have HP38:=Kd.R_putg HO_8.out (x9_1:Int) (wrap64 ((rd x8_2 (ji29))+1))
                   go_wp2_with (first|((with_reducible refine gate_store (t:=3) (p:=79) rfl ?_);(try (rw [drewN_self wr];generalize hq_:World.drewN wr _=wr;have n0_:=Zz.mk (Kd.R_at hq_ HO_6.out);have n1_:=Zz.mk (Kd.R_at hq_ HO_7.out);have n2_:=Zz.mk (Kd.R_at hq_ HO_8.out);have n3_:=Zz.mk (Kd.V_at hq_ HO_10.out);have n4_:=Zz.mk (blk_at hq_ BK490.out);have n5_:=Zz.mk (below_at hq_ HB.out);clear hq_ HO_6 HO_7 HO_8 HO_10 BK490 HB;have HO_6:=n0_;have HO_7:=n1_;have HO_8:=n2_;have HO_10:=n3_;have BK490:=n4_;have HB:=n5_;clear n0_ n1_ n2_ n3_ n4_ n5_;(try (have HP38:=Kd.R_putg HO_8.out (x9_1:Int) (wrap64 ((rd x8_2 (ji29))+1))))));refine store_event (t:=3) (p:=79) (v:=?vo_w39) (w1:=(wr.setCell ⟨go21,(x9_1:Int).toNat,none⟩ (.int .i64 (wrap64 ((rd x8_2 (ji29))+1))))) ?hg ?ho ?hn ?hr ?_;(case ho=>rfl);(case hg=>rfl);(case hn=>rfl);(case hr=>first|(go_simp;done)|(go_simp;rfl));intro w39 hw;have hg:wr.grownBy w39 (some go21):=(by rw [hw];exact HP38.2);have hp_:Kd.R (Kd.int .i64) 3 w39 w.heap.size (fun _=>True) (.slice (some ⟨go21,0,none⟩) x8_2.length co21) y508:=(by rw [hw,Ny508.out];exact HP38.1);clear HP38;have n0_:=Zz.mk (Kd.R_over' (v:=(.slice (some ⟨go21,0,none⟩) x8_2.length co21)) (by (with_reducible repeat first|apply Kd.R_alloc|apply Kd.R_drewN|apply Kd.R_drew);exact HO_6.out) (Kd.R_typed HO_8.out) (by decide) hg);have n1_:=Zz.mk (Kd.R_over' (v:=(.slice (some ⟨go21,0,none⟩) x8_2.length co21)) (by (with_reducible repeat first|apply Kd.R_alloc|apply Kd.R_drewN|apply Kd.R_drew);exact HO_7.out) (Kd.R_typed HO_8.out) (by decide) hg);have n2_:=Zz.mk (hp_);have n3_:=Zz.mk (Kd.V_afterv (v:=(.slice (some ⟨go21,0,none⟩) x8_2.length co21)) (v1:=(.slice (some ⟨go21,0,none⟩) x8_2.length co21)) (ok:=(fun k_=>some k_ ≠ (v492:Value).ownBlock∧some k_ ≠ (.slice Ao25 t495.length co25:Value).ownBlock∧k_ ≠ gb490)) (by (with_reducible repeat (first|apply Kd.V_alloc|apply Kd.V_drewN|apply Kd.V_drew));exact Kd.V_mono HO_10.out (fun _ hk=>⟨⟨hk.1,⟨hk.2.1,hk.2.2.2⟩⟩,hk.2.2.1⟩)) hg (.inl rfl));have n4_:=Zz.mk (blk_grown (g:=gb490) (o:=.cells #[.slice A0_0 l0_0.length c0_0] 31 (0,0)) (by (with_reducible repeat first|apply bN|apply bD|apply bA);exact BK490.out) hg (Kd.R_ne HO_8.out BK490.out (by decide)));have n5_:=Zz.mk ((by rw [hw];exact qS (HB.out) GB21.out:Below w.heap.size w w39));clear HO_6;clear HO_7;clear HO_8;clear HO_10;clear BK490;clear HB;have HO_6:=n0_;have HO_7:=n1_;have HO_8:=n2_;have HO_10:=n3_;have BK490:=n4_;have HB:=n5_;clear n0_ n1_ n2_ n3_ n4_ n5_;clear hg hw hp_))
                   repeat (go_quiet (first|((with_reducible refine gate_store (t:=3) (p:=79) rfl ?_);(try (rw [drewN_self wr];generalize hq_:World.drewN wr _=wr;have n0_:=Zz.mk (Kd.R_at hq_ HO_6.out);have n1_:=Zz.mk (Kd.R_at hq_ HO_7.out);have n2_:=Zz.mk (Kd.R_at hq_ HO_8.out);have n3_:=Zz.mk (Kd.V_at hq_ HO_10.out);have n4_:=Zz.mk (blk_at hq_ BK490.out);have n5_:=Zz.mk (below_at hq_ HB.out);clear hq_ HO_6 HO_7 HO_8 HO_10 BK490 HB;have HO_6:=n0_;have HO_7:=n1_;have HO_8:=n2_;have HO_10:=n3_;have BK490:=n4_;have HB:=n5_;clear n0_ n1_ n2_ n3_ n4_ n5_;(try (have HP38:=Kd.R_putg HO_8.out (x9_1:Int) (wrap64 ((rd x8_2 (ji29))+1))))));refine store_event (t:=3) (p:=79) (v:=?vo_w39) (w1:=(wr.setCell ⟨go21,(x9_1:Int).toNat,none⟩ (.int .i64 (wrap64 ((rd x8_2 (ji29))+1))))) ?hg ?ho ?hn ?hr ?_;(case ho=>rfl);(case hg=>rfl);(case hn=>rfl);(case hr=>first|(go_simp;done)|(go_simp;rfl));intro w39 hw;have hg:wr.grownBy w39 (some go21):=(by rw [hw];exact HP38.2);have hp_:Kd.R (Kd.int .i64) 3 w39 w.heap.size (fun _=>True) (.slice (some ⟨go21,0,none⟩) x8_2.length co21) y508:=(by rw [hw,Ny508.out];exact HP38.1);clear HP38;have n0_:=Zz.mk (Kd.R_over' (v:=(.slice (some ⟨go21,0,none⟩) x8_2.length co21)) (by (with_reducible repeat first|apply Kd.R_alloc|apply Kd.R_drewN|apply Kd.R_drew);exact HO_6.out) (Kd.R_typed HO_8.out) (by decide) hg);have n1_:=Zz.mk (Kd.R_over' (v:=(.slice (some ⟨go21,0,none⟩) x8_2.length co21)) (by (with_reducible repeat first|apply Kd.R_alloc|apply Kd.R_drewN|apply Kd.R_drew);exact HO_7.out) (Kd.R_typed HO_8.out) (by decide) hg);have n2_:=Zz.mk (hp_);have n3_:=Zz.mk (Kd.V_afterv (v:=(.slice (some ⟨go21,0,none⟩) x8_2.length co21)) (v1:=(.slice (some ⟨go21,0,none⟩) x8_2.length co21)) (ok:=(fun k_=>some k_ ≠ (v492:Value).ownBlock∧some k_ ≠ (.slice Ao25 t495.length co25:Value).ownBlock∧k_ ≠ gb490)) (by (with_reducible repeat (first|apply Kd.V_alloc|apply Kd.V_drewN|apply Kd.V_drew));exact Kd.V_mono HO_10.out (fun _ hk=>⟨⟨hk.1,⟨hk.2.1,hk.2.2.2⟩⟩,hk.2.2.1⟩)) hg (.inl rfl));have n4_:=Zz.mk (blk_grown (g:=gb490) (o:=.cells #[.slice A0_0 l0_0.length c0_0] 31 (0,0)) (by (with_reducible repeat first|apply bN|apply bD|apply bA);exact BK490.out) hg (Kd.R_ne HO_8.out BK490.out (by decide)));have n5_:=Zz.mk ((by rw [hw];exact qS (HB.out) GB21.out:Below w.heap.size w w39));clear HO_6;clear HO_7;clear HO_8;clear HO_10;clear BK490;clear HB;have HO_6:=n0_;have HO_7:=n1_;have HO_8:=n2_;have HO_10:=n3_;have BK490:=n4_;have HB:=n5_;clear n0_ n1_ n2_ n3_ n4_ n5_;clear hg hw hp_));try go_wp2_with (first|((with_reducible refine gate_store (t:=3) (p:=79) rfl ?_);(try (rw [drewN_self wr];generalize hq_:World.drewN wr _=wr;have n0_:=Zz.mk (Kd.R_at hq_ HO_6.out);have n1_:=Zz.mk (Kd.R_at hq_ HO_7.out);have n2_:=Zz.mk (Kd.R_at hq_ HO_8.out);have n3_:=Zz.mk (Kd.V_at hq_ HO_10.out);have n4_:=Zz.mk (blk_at hq_ BK490.out);have n5_:=Zz.mk (below_at hq_ HB.out);clear hq_ HO_6 HO_7 HO_8 HO_10 BK490 HB;have HO_6:=n0_;have HO_7:=n1_;have HO_8:=n2_;have HO_10:=n3_;have BK490:=n4_;have HB:=n5_;clear n0_ n1_ n2_ n3_ n4_ n5_;(try (have HP38:=Kd.R_putg HO_8.out (x9_1:Int) (wrap64 ((rd x8_2 (ji29))+1))))));refine store_event (t:=3) (p:=79) (v:=?vo_w39) (w1:=(wr.setCell ⟨go21,(x9_1:Int).toNat,none⟩ (.int .i64 (wrap64 ((rd x8_2 (ji29))+1))))) ?hg ?ho ?hn ?hr ?_;(case ho=>rfl);(case hg=>rfl);(case hn=>rfl);(case hr=>first|(go_simp;done)|(go_simp;rfl));intro w39 hw;have hg:wr.grownBy w39 (some go21):=(by rw [hw];exact HP38.2);have hp_:Kd.R (Kd.int .i64) 3 w39 w.heap.size (fun _=>True) (.slice (some ⟨go21,0,none⟩) x8_2.length co21) y508:=(by rw [hw,Ny508.out];exact HP38.1);clear HP38;have n0_:=Zz.mk (Kd.R_over' (v:=(.slice (some ⟨go21,0,none⟩) x8_2.length co21)) (by (with_reducible repeat first|apply Kd.R_alloc|apply Kd.R_drewN|apply Kd.R_drew);exact HO_6.out) (Kd.R_typed HO_8.out) (by decide) hg);have n1_:=Zz.mk (Kd.R_over' (v:=(.slice (some ⟨go21,0,none⟩) x8_2.length co21)) (by (with_reducible repeat first|apply Kd.R_alloc|apply Kd.R_drewN|apply Kd.R_drew);exact HO_7.out) (Kd.R_typed HO_8.out) (by decide) hg);have n2_:=Zz.mk (hp_);have n3_:=Zz.mk (Kd.V_afterv (v:=(.slice (some ⟨go21,0,none⟩) x8_2.length co21)) (v1:=(.slice (some ⟨go21,0,none⟩) x8_2.length co21)) (ok:=(fun k_=>some k_ ≠ (v492:Value).ownBlock∧some k_ ≠ (.slice Ao25 t495.length co25:Value).ownBlock∧k_ ≠ gb490)) (by (with_reducible repeat (first|apply Kd.V_alloc|apply Kd.V_drewN|apply Kd.V_drew));exact Kd.V_mono HO_10.out (fun _ hk=>⟨⟨hk.1,⟨hk.2.1,hk.2.2.2⟩⟩,hk.2.2.1⟩)) hg (.inl rfl));have n4_:=Zz.mk (blk_grown (g:=gb490) (o:=.cells #[.slice A0_0 l0_0.length c0_0] 31 (0,0)) (by (with_reducible repeat first|apply bN|apply bD|apply bA);exact BK490.out) hg (Kd.R_ne HO_8.out BK490.out (by decide)));have n5_:=Zz.mk ((by rw [hw];exact qS (HB.out) GB21.out:Below w.heap.size w w39));clear HO_6;clear HO_7;clear HO_8;clear HO_10;clear BK490;clear HB;have HO_6:=n0_;have HO_7:=n1_;have HO_8:=n2_;have HO_10:=n3_;have BK490:=n4_;have HB:=n5_;clear n0_ n1_ n2_ n3_ n4_ n5_;clear hg hw hp_)))
                   (try simp only [← hl8_2])
                   go_roundg k2
                   case measure=>have:=HK1.out;have:=HK2.out;omega
                   case rel=>exact ⟨(y508),(wrap64 (x11_2+1)),(by first|rfl|(simp;done)|(simp [*];done)),H',⟨by have:=HK1.out;have:=HK2.out;omega⟩,⟨by (try simp only [hl8_2]);(with_reducible repeat first|apply Kd.R_alloc|apply Kd.R_drewN|apply Kd.R_drew);exact HO_6.out⟩,⟨by (try simp only [hl8_2]);(with_reducible repeat first|apply Kd.R_alloc|apply Kd.R_drewN|apply Kd.R_drew);exact HO_7.out⟩,⟨by (try simp only [hl8_2]);(with_reducible repeat first|apply Kd.R_alloc|apply Kd.R_drewN|apply Kd.R_drew);exact HO_8.out⟩,⟨by (try simp only [hl8_2]);(with_reducible repeat (first|apply Kd.V_alloc|apply Kd.V_drewN|apply Kd.V_drew));exact Kd.V_mono HO_10.out (fun _ hk=>⟨hk.1.1,⟨hk.1.2.1,⟨hk.2,hk.1.2.2⟩⟩⟩)⟩,⟨by (try simp only [hl8_2]);(with_reducible repeat first|apply bN|apply bD|apply bA);exact BK490.out⟩,⟨by repeat (first|(with_reducible first|exact HB.out|apply qA|apply qN|apply q1_|refine qS ?_ GE490.out)|exact HB.out)⟩⟩
                  ·rw [if_neg c35] at H
                   have c35b0:decide ((rd x8_2 x9_1)<0)=false:=decide_eq_false c35
                   clear c35
                   by_cases c40:(wrap64 ((rd x8_2 (ji29))+1))<(rd x8_2 x9_1)
                   ·rw [if_pos c40] at H
                    have c40b0:decide ((wrap64 ((rd x8_2 (ji29))+1))<(rd x8_2 x9_1))=true:=decide_eq_true c40
                    clear c40
                    obtain ⟨y510,hy510⟩:∃ y_:List Int,y_=(x8_2.set (x9_1:Int).toNat (wrap64 ((rd x8_2 (ji29))+1))):=⟨_,rfl⟩
                    replace H:(spec_BestSplit.l1 k2 a1 y491 t495 y510 x9_1 t502 (wrap64 (x11_2+1)))=some (r1,r2):=by first|(rw [hy510];with_reducible exact H)|(have H2_:=(Option.bind_some _ _).symm.trans H;rw [hy510];with_reducible exact H2_)|(have H2_:=(Option.bind_some _ _).symm.trans H;with_reducible exact H2_)|with_reducible exact H|(rw [hy510];exact H)|exact H
                    have Ny510:=Zz.mk hy510
                    clear hy510
                    have H':=Zz.mk H
                    clear H
                    obtain ⟨Ao42,co42,eo42⟩:=Kd.V_slice HO_10.out
                    subst eo42
                    have p505:0≤(x11_2:Int):=of_decide_eq_true (by first|(with_reducible assumption)|assumption)
                    have q505:x11_2<(t502.length:Int):=of_decide_eq_true (by first|(with_reducible assumption)|assumption)
                    obtain ⟨ad505,e505,hx505_0⟩:=Kd.at_int (Kd.V_reads' HO_10.out).2.2 x11_2 p505 q505
                    cases e505
                    replace p505:=eq_true p505
                    replace q505:=eq_true q505
                    have p506:0≤((ji29):Int):=of_decide_eq_true (by first|(with_reducible assumption)|assumption)
                    have q506:(ji29)<(x8_2.length:Int):=of_decide_eq_true (by first|(with_reducible assumption)|assumption)
                    obtain ⟨ad506,e506,hx506_0⟩:=Kd.at_int (Kd.R_reads' HO_8.out).2.2 (ji29) p506 q506
                    obtain rfl:(⟨go21,0,none⟩:Addr)=ad506:=(by injection e506)
                    (first|simp only [add_plain] at hx506_0|simp only [add_at] at hx506_0|simp only [Addr.add,Nat.zero_add] at hx506_0|skip)
                    replace p506:=eq_true p506
                    replace q506:=eq_true q506
                    have p507:0≤(x9_1:Int):=of_decide_eq_true (by first|(with_reducible assumption)|assumption)
                    have q507:x9_1<(x8_2.length:Int):=of_decide_eq_true (by first|(with_reducible assumption)|assumption)
                    obtain ⟨ad507,e507,hx507_0⟩:=Kd.at_int (Kd.R_reads' HO_8.out).2.2 x9_1 p507 q507
                    obtain rfl:(⟨go21,0,none⟩:Addr)=ad507:=(by injection e507)
                    (first|simp only [add_plain] at hx507_0|simp only [add_at] at hx507_0|simp only [Addr.add,Nat.zero_add] at hx507_0|skip)
                    replace p507:=eq_true p507
                    replace q507:=eq_true q507
                    have p509:0≤(x9_1:Int):=of_decide_eq_true (by first|(with_reducible assumption)|assumption)
                    have q509:x9_1<(x8_2.length:Int):=of_decide_eq_true (by first|(with_reducible assumption)|assumption)
                    obtain ⟨ad509,e509,hx509_0⟩:=Kd.at_int (Kd.R_reads' HO_8.out).2.2 x9_1 p509 q509
                    obtain rfl:(⟨go21,0,none⟩:Addr)=ad509:=(by injection e509)
                    (first|simp only [add_plain] at hx509_0|simp only [add_at] at hx509_0|simp only [Addr.add,Nat.zero_add] at hx509_0|skip)
                    replace p509:=eq_true p509
                    replace q509:=eq_true q509
                    have p41:0≤(x9_1:Int):=of_decide_eq_true (by first|(with_reducible assumption)|assumption)
                    have q41:(x9_1:Int)<((x8_2.length:Int):Int):=of_decide_eq_true (by first|(with_reducible assumption)|assumption)
                    obtain ⟨hx41_0,hf41_0⟩:=Kd.R_celln 0 HO_8.out (x9_1:Int) p41 q41
                    (try simp only [Int.toNat_natCast] at hx41_0 hf41_0)
                    replace p41:=eq_true p41
                    replace q41:=eq_true q41
                    have HP43:=Kd.R_putg HO_8.out (x9_1:Int) (wrap64 ((rd x8_2 (ji29))+1))
                    go_wp2_with (first|((with_reducible refine gate_store (t:=3) (p:=79) rfl ?_);(try (rw [drewN_self wr];generalize hq_:World.drewN wr _=wr;have n0_:=Zz.mk (Kd.R_at hq_ HO_6.out);have n1_:=Zz.mk (Kd.R_at hq_ HO_7.out);have n2_:=Zz.mk (Kd.R_at hq_ HO_8.out);have n3_:=Zz.mk (Kd.V_at hq_ HO_10.out);have n4_:=Zz.mk (blk_at hq_ BK490.out);have n5_:=Zz.mk (below_at hq_ HB.out);clear hq_ HO_6 HO_7 HO_8 HO_10 BK490 HB;have HO_6:=n0_;have HO_7:=n1_;have HO_8:=n2_;have HO_10:=n3_;have BK490:=n4_;have HB:=n5_;clear n0_ n1_ n2_ n3_ n4_ n5_;(try (have HP43:=Kd.R_putg HO_8.out (x9_1:Int) (wrap64 ((rd x8_2 (ji29))+1))))));refine store_event (t:=3) (p:=79) (v:=?vo_w44) (w1:=(wr.setCell ⟨go21,(x9_1:Int).toNat,none⟩ (.int .i64 (wrap64 ((rd x8_2 (ji29))+1))))) ?hg ?ho ?hn ?hr ?_;(case ho=>rfl);(case hg=>rfl);(case hn=>rfl);(case hr=>first|(go_simp;done)|(go_simp;rfl));intro w44 hw;have hg:wr.grownBy w44 (some go21):=(by rw [hw];exact HP43.2);have hp_:Kd.R (Kd.int .i64) 3 w44 w.heap.size (fun _=>True) (.slice (some ⟨go21,0,none⟩) x8_2.length co21) y510:=(by rw [hw,Ny510.out];exact HP43.1);clear HP43;have n0_:=Zz.mk (Kd.R_over' (v:=(.slice (some ⟨go21,0,none⟩) x8_2.length co21)) (by (with_reducible repeat first|apply Kd.R_alloc|apply Kd.R_drewN|apply Kd.R_drew);exact HO_6.out) (Kd.R_typed HO_8.out) (by decide) hg);have n1_:=Zz.mk (Kd.R_over' (v:=(.slice (some ⟨go21,0,none⟩) x8_2.length co21)) (by (with_reducible repeat first|apply Kd.R_alloc|apply Kd.R_drewN|apply Kd.R_drew);exact HO_7.out) (Kd.R_typed HO_8.out) (by decide) hg);have n2_:=Zz.mk (hp_);have n3_:=Zz.mk (Kd.V_afterv (v:=(.slice (some ⟨go21,0,none⟩) x8_2.length co21)) (v1:=(.slice (some ⟨go21,0,none⟩) x8_2.length co21)) (ok:=(fun k_=>some k_ ≠ (v492:Value).ownBlock∧some k_ ≠ (.slice Ao25 t495.length co25:Value).ownBlock∧k_ ≠ gb490)) (by (with_reducible repeat (first|apply Kd.V_alloc|apply Kd.V_drewN|apply Kd.V_drew));exact Kd.V_mono HO_10.out (fun _ hk=>⟨⟨hk.1,⟨hk.2.1,hk.2.2.2⟩⟩,hk.2.2.1⟩)) hg (.inl rfl));have n4_:=Zz.mk (blk_grown (g:=gb490) (o:=.cells #[.slice A0_0 l0_0.length c0_0] 31 (0,0)) (by (with_reducible repeat first|apply bN|apply bD|apply bA);exact BK490.out) hg (Kd.R_ne HO_8.out BK490.out (by decide)));have n5_:=Zz.mk ((by rw [hw];exact qS (HB.out) GB21.out:Below w.heap.size w w44));clear HO_6;clear HO_7;clear HO_8;clear HO_10;clear BK490;clear HB;have HO_6:=n0_;have HO_7:=n1_;have HO_8:=n2_;have HO_10:=n3_;have BK490:=n4_;have HB:=n5_;clear n0_ n1_ n2_ n3_ n4_ n5_;clear hg hw hp_))
                    repeat (go_quiet (first|((with_reducible refine gate_store (t:=3) (p:=79) rfl ?_);(try (rw [drewN_self wr];generalize hq_:World.drewN wr _=wr;have n0_:=Zz.mk (Kd.R_at hq_ HO_6.out);have n1_:=Zz.mk (Kd.R_at hq_ HO_7.out);have n2_:=Zz.mk (Kd.R_at hq_ HO_8.out);have n3_:=Zz.mk (Kd.V_at hq_ HO_10.out);have n4_:=Zz.mk (blk_at hq_ BK490.out);have n5_:=Zz.mk (below_at hq_ HB.out);clear hq_ HO_6 HO_7 HO_8 HO_10 BK490 HB;have HO_6:=n0_;have HO_7:=n1_;have HO_8:=n2_;have HO_10:=n3_;have BK490:=n4_;have HB:=n5_;clear n0_ n1_ n2_ n3_ n4_ n5_;(try (have HP43:=Kd.R_putg HO_8.out (x9_1:Int) (wrap64 ((rd x8_2 (ji29))+1))))));refine store_event (t:=3) (p:=79) (v:=?vo_w44) (w1:=(wr.setCell ⟨go21,(x9_1:Int).toNat,none⟩ (.int .i64 (wrap64 ((rd x8_2 (ji29))+1))))) ?hg ?ho ?hn ?hr ?_;(case ho=>rfl);(case hg=>rfl);(case hn=>rfl);(case hr=>first|(go_simp;done)|(go_simp;rfl));intro w44 hw;have hg:wr.grownBy w44 (some go21):=(by rw [hw];exact HP43.2);have hp_:Kd.R (Kd.int .i64) 3 w44 w.heap.size (fun _=>True) (.slice (some ⟨go21,0,none⟩) x8_2.length co21) y510:=(by rw [hw,Ny510.out];exact HP43.1);clear HP43;have n0_:=Zz.mk (Kd.R_over' (v:=(.slice (some ⟨go21,0,none⟩) x8_2.length co21)) (by (with_reducible repeat first|apply Kd.R_alloc|apply Kd.R_drewN|apply Kd.R_drew);exact HO_6.out) (Kd.R_typed HO_8.out) (by decide) hg);have n1_:=Zz.mk (Kd.R_over' (v:=(.slice (some ⟨go21,0,none⟩) x8_2.length co21)) (by (with_reducible repeat first|apply Kd.R_alloc|apply Kd.R_drewN|apply Kd.R_drew);exact HO_7.out) (Kd.R_typed HO_8.out) (by decide) hg);have n2_:=Zz.mk (hp_);have n3_:=Zz.mk (Kd.V_afterv (v:=(.slice (some ⟨go21,0,none⟩) x8_2.length co21)) (v1:=(.slice (some ⟨go21,0,none⟩) x8_2.length co21)) (ok:=(fun k_=>some k_ ≠ (v492:Value).ownBlock∧some k_ ≠ (.slice Ao25 t495.length co25:Value).ownBlock∧k_ ≠ gb490)) (by (with_reducible repeat (first|apply Kd.V_alloc|apply Kd.V_drewN|apply Kd.V_drew));exact Kd.V_mono HO_10.out (fun _ hk=>⟨⟨hk.1,⟨hk.2.1,hk.2.2.2⟩⟩,hk.2.2.1⟩)) hg (.inl rfl));have n4_:=Zz.mk (blk_grown (g:=gb490) (o:=.cells #[.slice A0_0 l0_0.length c0_0] 31 (0,0)) (by (with_reducible repeat first|apply bN|apply bD|apply bA);exact BK490.out) hg (Kd.R_ne HO_8.out BK490.out (by decide)));have n5_:=Zz.mk ((by rw [hw];exact qS (HB.out) GB21.out:Below w.heap.size w w44));clear HO_6;clear HO_7;clear HO_8;clear HO_10;clear BK490;clear HB;have HO_6:=n0_;have HO_7:=n1_;have HO_8:=n2_;have HO_10:=n3_;have BK490:=n4_;have HB:=n5_;clear n0_ n1_ n2_ n3_ n4_ n5_;clear hg hw hp_));try go_wp2_with (first|((with_reducible refine gate_store (t:=3) (p:=79) rfl ?_);(try (rw [drewN_self wr];generalize hq_:World.drewN wr _=wr;have n0_:=Zz.mk (Kd.R_at hq_ HO_6.out);have n1_:=Zz.mk (Kd.R_at hq_ HO_7.out);have n2_:=Zz.mk (Kd.R_at hq_ HO_8.out);have n3_:=Zz.mk (Kd.V_at hq_ HO_10.out);have n4_:=Zz.mk (blk_at hq_ BK490.out);have n5_:=Zz.mk (below_at hq_ HB.out);clear hq_ HO_6 HO_7 HO_8 HO_10 BK490 HB;have HO_6:=n0_;have HO_7:=n1_;have HO_8:=n2_;have HO_10:=n3_;have BK490:=n4_;have HB:=n5_;clear n0_ n1_ n2_ n3_ n4_ n5_;(try (have HP43:=Kd.R_putg HO_8.out (x9_1:Int) (wrap64 ((rd x8_2 (ji29))+1))))));refine store_event (t:=3) (p:=79) (v:=?vo_w44) (w1:=(wr.setCell ⟨go21,(x9_1:Int).toNat,none⟩ (.int .i64 (wrap64 ((rd x8_2 (ji29))+1))))) ?hg ?ho ?hn ?hr ?_;(case ho=>rfl);(case hg=>rfl);(case hn=>rfl);(case hr=>first|(go_simp;done)|(go_simp;rfl));intro w44 hw;have hg:wr.grownBy w44 (some go21):=(by rw [hw];exact HP43.2);have hp_:Kd.R (Kd.int .i64) 3 w44 w.heap.size (fun _=>True) (.slice (some ⟨go21,0,none⟩) x8_2.length co21) y510:=(by rw [hw,Ny510.out];exact HP43.1);clear HP43;have n0_:=Zz.mk (Kd.R_over' (v:=(.slice (some ⟨go21,0,none⟩) x8_2.length co21)) (by (with_reducible repeat first|apply Kd.R_alloc|apply Kd.R_drewN|apply Kd.R_drew);exact HO_6.out) (Kd.R_typed HO_8.out) (by decide) hg);have n1_:=Zz.mk (Kd.R_over' (v:=(.slice (some ⟨go21,0,none⟩) x8_2.length co21)) (by (with_reducible repeat first|apply Kd.R_alloc|apply Kd.R_drewN|apply Kd.R_drew);exact HO_7.out) (Kd.R_typed HO_8.out) (by decide) hg);have n2_:=Zz.mk (hp_);have n3_:=Zz.mk (Kd.V_afterv (v:=(.slice (some ⟨go21,0,none⟩) x8_2.length co21)) (v1:=(.slice (some ⟨go21,0,none⟩) x8_2.length co21)) (ok:=(fun k_=>some k_ ≠ (v492:Value).ownBlock∧some k_ ≠ (.slice Ao25 t495.length co25:Value).ownBlock∧k_ ≠ gb490)) (by (with_reducible repeat (first|apply Kd.V_alloc|apply Kd.V_drewN|apply Kd.V_drew));exact Kd.V_mono HO_10.out (fun _ hk=>⟨⟨hk.1,⟨hk.2.1,hk.2.2.2⟩⟩,hk.2.2.1⟩)) hg (.inl rfl));have n4_:=Zz.mk (blk_grown (g:=gb490) (o:=.cells #[.slice A0_0 l0_0.length c0_0] 31 (0,0)) (by (with_reducible repeat first|apply bN|apply bD|apply bA);exact BK490.out) hg (Kd.R_ne HO_8.out BK490.out (by decide)));have n5_:=Zz.mk ((by rw [hw];exact qS (HB.out) GB21.out:Below w.heap.size w w44));clear HO_6;clear HO_7;clear HO_8;clear HO_10;clear BK490;clear HB;have HO_6:=n0_;have HO_7:=n1_;have HO_8:=n2_;have HO_10:=n3_;have BK490:=n4_;have HB:=n5_;clear n0_ n1_ n2_ n3_ n4_ n5_;clear hg hw hp_)))
                    (try simp only [← hl8_2])
                    go_roundg k2
                    case measure=>have:=HK1.out;have:=HK2.out;omega
                    case rel=>exact ⟨(y510),(wrap64 (x11_2+1)),(by first|rfl|(simp;done)|(simp [*];done)),H',⟨by have:=HK1.out;have:=HK2.out;omega⟩,⟨by (try simp only [hl8_2]);(with_reducible repeat first|apply Kd.R_alloc|apply Kd.R_drewN|apply Kd.R_drew);exact HO_6.out⟩,⟨by (try simp only [hl8_2]);(with_reducible repeat first|apply Kd.R_alloc|apply Kd.R_drewN|apply Kd.R_drew);exact HO_7.out⟩,⟨by (try simp only [hl8_2]);(with_reducible repeat first|apply Kd.R_alloc|apply Kd.R_drewN|apply Kd.R_drew);exact HO_8.out⟩,⟨by (try simp only [hl8_2]);(with_reducible repeat (first|apply Kd.V_alloc|apply Kd.V_drewN|apply Kd.V_drew));exact Kd.V_mono HO_10.out (fun _ hk=>⟨hk.1.1,⟨hk.1.2.1,⟨hk.2,hk.1.2.2⟩⟩⟩)⟩,⟨by (try simp only [hl8_2]);(with_reducible repeat first|apply bN|apply bD|apply bA);exact BK490.out⟩,⟨by repeat (first|(with_reducible first|exact HB.out|apply qA|apply qN|apply q1_|refine qS ?_ GE490.out)|exact HB.out)⟩⟩
                   ·rw [if_neg c40] at H
                    have c40b0:decide ((wrap64 ((rd x8_2 (ji29))+1))<(rd x8_2 x9_1))=false:=decide_eq_false c40
                    clear c40
                    have H':=Zz.mk H
                    clear H
                    obtain ⟨Ao45,co45,eo45⟩:=Kd.V_slice HO_10.out
                    subst eo45
                    have p505:0≤(x11_2:Int):=of_decide_eq_true (by first|(with_reducible assumption)|assumption)
                    have q505:x11_2<(t502.length:Int):=of_decide_eq_true (by first|(with_reducible assumption)|assumption)
                    obtain ⟨ad505,e505,hx505_0⟩:=Kd.at_int (Kd.V_reads' HO_10.out).2.2 x11_2 p505 q505
                    cases e505
                    replace p505:=eq_true p505
                    replace q505:=eq_true q505
                    have p506:0≤((ji29):Int):=of_decide_eq_true (by first|(with_reducible assumption)|assumption)
                    have q506:(ji29)<(x8_2.length:Int):=of_decide_eq_true (by first|(with_reducible assumption)|assumption)
                    obtain ⟨ad506,e506,hx506_0⟩:=Kd.at_int (Kd.R_reads' HO_8.out).2.2 (ji29) p506 q506
                    obtain rfl:(⟨go21,0,none⟩:Addr)=ad506:=(by injection e506)
                    (first|simp only [add_plain] at hx506_0|simp only [add_at] at hx506_0|simp only [Addr.add,Nat.zero_add] at hx506_0|skip)
                    replace p506:=eq_true p506
                    replace q506:=eq_true q506
                    have p507:0≤(x9_1:Int):=of_decide_eq_true (by first|(with_reducible assumption)|assumption)
                    have q507:x9_1<(x8_2.length:Int):=of_decide_eq_true (by first|(with_reducible assumption)|assumption)
                    obtain ⟨ad507,e507,hx507_0⟩:=Kd.at_int (Kd.R_reads' HO_8.out).2.2 x9_1 p507 q507
                    obtain rfl:(⟨go21,0,none⟩:Addr)=ad507:=(by injection e507)
                    (first|simp only [add_plain] at hx507_0|simp only [add_at] at hx507_0|simp only [Addr.add,Nat.zero_add] at hx507_0|skip)
                    replace p507:=eq_true p507
                    replace q507:=eq_true q507
                    have p509:0≤(x9_1:Int):=of_decide_eq_true (by first|(with_reducible assumption)|assumption)
                    have q509:x9_1<(x8_2.length:Int):=of_decide_eq_true (by first|(with_reducible assumption)|assumption)
                    obtain ⟨ad509,e509,hx509_0⟩:=Kd.at_int (Kd.R_reads' HO_8.out).2.2 x9_1 p509 q509
                    obtain rfl:(⟨go21,0,none⟩:Addr)=ad509:=(by injection e509)
                    (first|simp only [add_plain] at hx509_0|simp only [add_at] at hx509_0|simp only [Addr.add,Nat.zero_add] at hx509_0|skip)
                    replace p509:=eq_true p509
                    replace q509:=eq_true q509
                    go_wp2
                    repeat (go_quiet (fail);try go_wp2)
                    (try simp only [← hl8_2])
                    go_roundg k2
                    case measure=>have:=HK1.out;have:=HK2.out;omega
                    case rel=>exact ⟨(x8_2),(wrap64 (x11_2+1)),(by first|rfl|(simp;done)|(simp [*];done)),H',⟨by have:=HK1.out;have:=HK2.out;omega⟩,⟨by (try simp only [hl8_2]);(with_reducible repeat first|apply Kd.R_alloc|apply Kd.R_drewN|apply Kd.R_drew);exact HO_6.out⟩,⟨by (try simp only [hl8_2]);(with_reducible repeat first|apply Kd.R_alloc|apply Kd.R_drewN|apply Kd.R_drew);exact HO_7.out⟩,⟨by (try simp only [hl8_2]);(with_reducible repeat first|apply Kd.R_alloc|apply Kd.R_drewN|apply Kd.R_drew);exact HO_8.out⟩,⟨by (try simp only [hl8_2]);(with_reducible repeat (first|apply Kd.V_alloc|apply Kd.V_drewN|apply Kd.V_drew));exact HO_10.out⟩,⟨by (try simp only [hl8_2]);(with_reducible repeat first|apply bN|apply bD|apply bA);exact BK490.out⟩,⟨by repeat (first|(with_reducible first|exact HB.out|apply qA|apply qN|apply q1_|refine qS ?_ GE490.out)|exact HB.out)⟩⟩
                 ·rw [if_neg c34] at H
                  exact absurd H (by simp)
                ·rw [if_neg c33] at H
                 exact absurd H (by simp)
               ·rw [if_neg c32] at H
                have c32b0:decide (0≤(rd x8_2 (ji29)))=false:=decide_eq_false c32
                clear c32
                have H':=Zz.mk H
                clear H
                obtain ⟨Ao46,co46,eo46⟩:=Kd.V_slice HO_10.out
                subst eo46
                have p505:0≤(x11_2:Int):=of_decide_eq_true (by first|(with_reducible assumption)|assumption)
                have q505:x11_2<(t502.length:Int):=of_decide_eq_true (by first|(with_reducible assumption)|assumption)
                obtain ⟨ad505,e505,hx505_0⟩:=Kd.at_int (Kd.V_reads' HO_10.out).2.2 x11_2 p505 q505
                cases e505
                replace p505:=eq_true p505
                replace q505:=eq_true q505
                have p506:0≤((ji29):Int):=of_decide_eq_true (by first|(with_reducible assumption)|assumption)
                have q506:(ji29)<(x8_2.length:Int):=of_decide_eq_true (by first|(with_reducible assumption)|assumption)
                obtain ⟨ad506,e506,hx506_0⟩:=Kd.at_int (Kd.R_reads' HO_8.out).2.2 (ji29) p506 q506
                obtain rfl:(⟨go21,0,none⟩:Addr)=ad506:=(by injection e506)
                (first|simp only [add_plain] at hx506_0|simp only [add_at] at hx506_0|simp only [Addr.add,Nat.zero_add] at hx506_0|skip)
                replace p506:=eq_true p506
                replace q506:=eq_true q506
                go_wp2
                repeat (go_quiet (fail);try go_wp2)
                (try simp only [← hl8_2])
                go_roundg k2
                case measure=>have:=HK1.out;have:=HK2.out;omega
                case rel=>exact ⟨(x8_2),(wrap64 (x11_2+1)),(by first|rfl|(simp;done)|(simp [*];done)),H',⟨by have:=HK1.out;have:=HK2.out;omega⟩,⟨by (try simp only [hl8_2]);(with_reducible repeat first|apply Kd.R_alloc|apply Kd.R_drewN|apply Kd.R_drew);exact HO_6.out⟩,⟨by (try simp only [hl8_2]);(with_reducible repeat first|apply Kd.R_alloc|apply Kd.R_drewN|apply Kd.R_drew);exact HO_7.out⟩,⟨by (try simp only [hl8_2]);(with_reducible repeat first|apply Kd.R_alloc|apply Kd.R_drewN|apply Kd.R_drew);exact HO_8.out⟩,⟨by (try simp only [hl8_2]);(with_reducible repeat (first|apply Kd.V_alloc|apply Kd.V_drewN|apply Kd.V_drew));exact HO_10.out⟩,⟨by (try simp only [hl8_2]);(with_reducible repeat first|apply bN|apply bD|apply bA);exact BK490.out⟩,⟨by repeat (first|(with_reducible first|exact HB.out|apply qA|apply qN|apply q1_|refine qS ?_ GE490.out)|exact HB.out)⟩⟩
              ·rw [if_neg c31] at H
               exact absurd H (by simp)
             ·rw [if_neg c30] at H
              exact absurd H (by simp)
            ·rw [if_neg c28] at H
             exact absurd H (by simp)
           ·rw [if_neg c27] at H
            have c27b0:decide (x11_2<(t502.length:Int))=false:=decide_eq_false c27
            clear c27
            have H':=Zz.mk H
            clear H
            obtain ⟨Ao47,co47,eo47⟩:=Kd.V_slice HO_10.out
            subst eo47
            go_wp2
            repeat (go_quiet (fail);try go_wp2)
            (try simp only [← hl8_2])
            go_roundg k2
            case measure=>have:=HK1.out;have:=HK2.out;omega
            case rel=>exact ⟨(x8_2),(wrap64 (x9_1 - 1)),(by first|rfl|(simp;done)|(simp [*];done)),H',⟨by have:=HK1.out;have:=HK2.out;omega⟩,⟨by (try simp only [hl8_2]);(with_reducible repeat first|apply Kd.R_alloc|apply Kd.R_drewN|apply Kd.R_drew);exact HO_6.out⟩,⟨by (try simp only [hl8_2]);(with_reducible repeat first|apply Kd.R_alloc|apply Kd.R_drewN|apply Kd.R_drew);exact HO_7.out⟩,⟨by (try simp only [hl8_2]);(with_reducible repeat first|apply Kd.R_alloc|apply Kd.R_drewN|apply Kd.R_drew);exact HO_8.out⟩,⟨by (try simp only [hl8_2]);(with_reducible repeat first|apply bN|apply bD|apply bA);exact BK490.out⟩,⟨by repeat (first|(with_reducible first|exact HB.out|apply qA|apply qN|apply q1_|refine qS ?_ GE490.out)|exact HB.out)⟩⟩
        ·rw [if_neg c20] at H
         exact absurd H (by simp)
       ·rw [if_neg c19] at H
        exact absurd H (by simp)
      ·rw [if_neg c18] at H
       have c18b0:decide (0≤x9_1)=false:=decide_eq_false c18
       clear c18
       by_cases c48:0<(x8_1.length:Int)
       ·rw [if_pos c48] at H
        have c48b0:decide (0<(x8_1.length:Int))=true:=decide_eq_true c48
        have c48b1:decide (0<x8_1.length)=true:=decide_eq_true (by omega)
        clear c48
        by_cases c49:(rd x8_1 0)<0
        ·rw [if_pos c49] at H
         have c49b0:decide ((rd x8_1 0)<0)=true:=decide_eq_true c49
         clear c49
         simp only [Option.some.injEq,Prod.mk.injEq] at H
         obtain ⟨rfl,rfl⟩:=H
         obtain ⟨Ao50,co50,eo50⟩:=Kd.R_slice HO_8.out
         subst eo50
         have p511:0≤(0:Int):=(by omega)
         have q511:0<(x8_1.length:Int):=of_decide_eq_true (by first|(with_reducible assumption)|assumption)
         obtain ⟨ad511,e511,hx511_0⟩:=Kd.at_int (Kd.R_reads' HO_8.out).2.2 0 p511 q511
         cases e511
         have qi511:(0<x8_1.length)=True:=eq_true (by omega)
         (try rw [show ((0:Int)).toNat=0 from rfl] at hx511_0)
         (try rw [Addr.add_zero'] at hx511_0)
         replace p511:=eq_true p511
         replace q511:=eq_true q511
         go_wp2
         repeat (go_quiet (fail);try go_wp2)
         go_ret2
         exact ⟨_,by first|rfl|(simp [errW_none,errW_some] <;> rfl)|(simp only [← hji6];first|rfl|(simp [errW_none,errW_some] <;> rfl))|(simp [*,errW_none,errW_some] <;> rfl),by (with_reducible repeat first|apply Kd.R_alloc|apply Kd.R_drewN|apply Kd.R_drew);exact Kd.R_mono HO_6.out (fun _ hk=>trivial),by repeat (first|(with_reducible first|exact HB.out|apply qA|apply qN|apply q1_|refine qS ?_ GE490.out)|exact HB.out)⟩
        ·rw [if_neg c49] at H
         have c49b0:decide ((rd x8_1 0)<0)=false:=decide_eq_false c49
         clear c49
         have H':=Zz.mk H
         clear H
         obtain ⟨Ao51,co51,eo51⟩:=Kd.R_slice HO_8.out
         subst eo51
         have p511:0≤(0:Int):=(by omega)
         have q511:0<(x8_1.length:Int):=of_decide_eq_true (by first|(with_reducible assumption)|assumption)
         obtain ⟨ad511,e511,hx511_0⟩:=Kd.at_int (Kd.R_reads' HO_8.out).2.2 0 p511 q511
         cases e511
         have qi511:(0<x8_1.length)=True:=eq_true (by omega)
         (try rw [show ((0:Int)).toNat=0 from rfl] at hx511_0)
         (try rw [Addr.add_zero'] at hx511_0)
         replace p511:=eq_true p511
         replace q511:=eq_true q511
         go_wp2
         repeat (go_quiet (fail);try go_wp2)
         go_loopg [6,13] k1 (fun kq v6 v13 w'=>∃ (x6_2:List ByteArray) (x13_2:Int),v13=.int .i64 x13_2∧Zz (spec_BestSplit.l2 kq a1 x6_2 t495 x8_1 x13_2=some (r1,r2))∧Zz (kq≤k1)∧Zz (Kd.R Kd.string 9 w' w.heap.size (fun k_=>some k_ ≠ (v496:Value).ownBlock) v6 x6_2)∧Zz (Kd.R Kd.string 9 w' w.heap.size (fun k_=>some k_ ≠ (v6:Value).ownBlock) v496 t495)∧Zz (Kd.R (Kd.int .i64) 3 w' w.heap.size (fun _=>True) (.slice (some ad511) x8_1.length co51) x8_1)∧Zz (w'.heap[gb490]?=some (.cells #[(.slice A0_0 l0_0.length c0_0)] 31 (0,0)))∧Zz (Below w.heap.size w w'))
         case atStart=>exact ⟨(y491),(0),(by first|rfl|(simp;done)|(simp [*];done)),H',⟨Nat.le_refl _⟩,⟨by (with_reducible repeat first|apply Kd.R_alloc|apply Kd.R_drewN|apply Kd.R_drew);exact HO_6.out⟩,⟨by (with_reducible repeat first|apply Kd.R_alloc|apply Kd.R_drewN|apply Kd.R_drew);exact HO_7.out⟩,⟨by (with_reducible repeat first|apply Kd.R_alloc|apply Kd.R_drewN|apply Kd.R_drew);exact HO_8.out⟩,⟨by (with_reducible repeat first|apply bN|apply bD|apply bA);exact BK490.out⟩,⟨by repeat (first|(with_reducible first|exact HB.out|apply qA|apply qN|apply q1_|refine qS ?_ GE490.out)|exact HB.out)⟩⟩
         case round =>
          clear H'
          try clear c1
          try clear c2
          try clear p2
          try clear q2
          try clear hx2
          try clear hf2
          try clear c3
          try clear p3
          try clear q3
          try clear hx3
          try clear hf3
          try clear c4
          try clear p4
          try clear q4
          try clear hx4
          try clear hf4
          try clear p5
          try clear q5
          try clear hx5
          try clear qi5
          try clear p6
          try clear c7
          try clear c7b0
          try clear c7b1
          try clear c8
          try clear c8b0
          try clear c8b1
          try clear c18
          try clear c18b0
          try clear c19
          try clear c19b0
          try clear c20
          try clear c20b0
          try clear p21
          try clear q21
          try clear hx21
          try clear hf21
          try clear c27
          try clear c27b0
          try clear c28
          try clear c28b0
          try clear c30
          try clear c30b0
          try clear c31
          try clear c31b0
          try clear c32
          try clear c32b0
          try clear c33
          try clear c33b0
          try clear c34
          try clear c34b0
          try clear c35
          try clear c35b0
          try clear p36
          try clear q36
          try clear hx36
          try clear hf36
          try clear c40
          try clear c40b0
          try clear p41
          try clear q41
          try clear hx41
          try clear hf41
          try clear c48
          try clear c48b0
          try clear c48b1
          try clear c49
          try clear c49b0
          try clear p50
          try clear q50
          try clear hx50
          try clear p51
          try clear q51
          try clear hx51
          try clear qi51
          try clear hcz12_0
          try clear hcz14_0
          try clear hfz12_0
          try clear hfz14_0
          try clear hx21_0
          try clear hx36_0
          try clear hx41_0
          try clear hx505_0
          try clear hx506_0
          try clear hx507_0
          try clear hx509_0
          try clear hx511_0
          try clear p2
          try clear p21
          try clear p36
          try clear p41
          try clear p505
          try clear p506
          try clear p507
          try clear p509
          try clear p511
          try clear p6
          try clear q2
          try clear q21
          try clear q36
          try clear q41
          try clear q505
          try clear q506
          try clear q507
          try clear q509
          try clear q511
          obtain ⟨x6_2,x13_2,rfl,HA,HK2,HO_6,HO_7,HO_8,BK490,HB⟩:=hrel
          cases gk with
          | zero=>exact absurd HA.out (by simp [spec_BestSplit.l2])
          | succ k2 =>
           have H:=HA.out
           clear HA
           simp only [spec_BestSplit.l2] at H
           by_cases c52:x13_2<(a1.size:Int)
           ·rw [if_pos c52] at H
            have c52b0:decide (x13_2<(a1.size:Int))=true:=decide_eq_true c52
            clear c52
            replace H:=Option.bind_eq_some_iff.mp H
            obtain ⟨t512,A530,H⟩:=H
            replace H:(spec_BestSplit.l3 k2 a1 x6_2 t495 x8_1 x13_2 t512 (wrap64 ((t512.length:Int) - 1)))=some (r1,r2):=H
            have A53:=Zz.mk A530
            clear A530
            have H':=Zz.mk H
            clear H
            obtain ⟨Ao54,co54,eo54⟩:=Kd.R_slice HO_7.out
            subst eo54
            go_wp2_with (first|(go_at_call 28;(with_reducible refine (spec_l3Matches.calls k2 _ _ t495 a1 x13_2 t512 _ ?side1 ?side2 A53.out).mono ?_);(case side1=>repeat (first|exact (Kd.R_reads' HO_7.out).2.2|(with_reducible refine Kd.C_alloc ?_ _)|(with_reducible refine Kd.C_drewN ?_ _)|(with_reducible refine Kd.C_drew ?_)));(case side2=>exact (Kd.R_reads' HO_7.out).2.1);rintro e w55 ⟨v513,rfl,ho0,hb⟩;have n0_:=Zz.mk (Kd.R_below (by (with_reducible repeat first|apply Kd.R_alloc|apply Kd.R_drewN|apply Kd.R_drew);exact HO_6.out) hb);have n1_:=Zz.mk (Kd.R_below (by (with_reducible repeat first|apply Kd.R_alloc|apply Kd.R_drewN|apply Kd.R_drew);exact HO_7.out) hb);have n2_:=Zz.mk (Kd.R_below (by (with_reducible repeat first|apply Kd.R_alloc|apply Kd.R_drewN|apply Kd.R_drew);exact HO_8.out) hb);have n3_:=Zz.mk (Kd.V_lower (Kd.V_mono (ok':=fun k_=>some k_ ≠ (u6:Value).ownBlock∧some k_ ≠ (.slice Ao54 t495.length co54:Value).ownBlock∧some k_ ≠ (.slice (some ad511) x8_1.length co51:Value).ownBlock∧k_ ≠ gb490) ho0 (fun k_ hk_=>⟨(Kd.fresh' (Kd.R_lt (by (with_reducible repeat first|apply Kd.R_alloc|apply Kd.R_drewN|apply Kd.R_drew);exact HO_6.out)) k_ hk_),(Kd.fresh' (Kd.R_lt (by (with_reducible repeat first|apply Kd.R_alloc|apply Kd.R_drewN|apply Kd.R_drew);exact HO_7.out)) k_ hk_),(Kd.fresh' (Kd.R_lt (by (with_reducible repeat first|apply Kd.R_alloc|apply Kd.R_drewN|apply Kd.R_drew);exact HO_8.out)) k_ hk_),(Kd.freshB (g:=gb490) (o:=.cells #[.slice A0_0 l0_0.length c0_0] 31 (0,0)) (by (with_reducible repeat first|apply bN|apply bD|apply bA);exact BK490.out) k_ hk_)⟩)) (qZ (by repeat (first|(with_reducible first|exact HB.out|apply qA|apply qN|apply q1_|refine qS ?_ GE490.out)|exact HB.out))));have n4_:=Zz.mk (bB (g:=gb490) (o:=.cells #[.slice A0_0 l0_0.length c0_0] 31 (0,0)) (by (with_reducible repeat first|apply bN|apply bD|apply bA);exact BK490.out) hb);have n5_:=Zz.mk (qP (by repeat (first|(with_reducible first|exact HB.out|apply qA|apply qN|apply q1_|refine qS ?_ GE490.out)|exact HB.out)) hb);clear HO_6;clear HO_7;clear HO_8;clear BK490;clear HB;have HO_6:=n0_;have HO_7:=n1_;have HO_8:=n2_;have HO514:=n3_;have BK490:=n4_;have HB:=n5_;clear n0_ n1_ n2_ n3_ n4_ n5_;(try clear hb);(try clear hb2);(try clear hk);(try clear hi);(try clear ho0);obtain ⟨Ao56,co56,eo56⟩:=Kd.V_slice HO514.out;subst eo56))
            repeat (go_quiet (first|(go_at_call 28;(with_reducible refine (spec_l3Matches.calls k2 _ _ t495 a1 x13_2 t512 _ ?side1 ?side2 A53.out).mono ?_);(case side1=>repeat (first|exact (Kd.R_reads' HO_7.out).2.2|(with_reducible refine Kd.C_alloc ?_ _)|(with_reducible refine Kd.C_drewN ?_ _)|(with_reducible refine Kd.C_drew ?_)));(case side2=>exact (Kd.R_reads' HO_7.out).2.1);rintro e w55 ⟨v513,rfl,ho0,hb⟩;have n0_:=Zz.mk (Kd.R_below (by (with_reducible repeat first|apply Kd.R_alloc|apply Kd.R_drewN|apply Kd.R_drew);exact HO_6.out) hb);have n1_:=Zz.mk (Kd.R_below (by (with_reducible repeat first|apply Kd.R_alloc|apply Kd.R_drewN|apply Kd.R_drew);exact HO_7.out) hb);have n2_:=Zz.mk (Kd.R_below (by (with_reducible repeat first|apply Kd.R_alloc|apply Kd.R_drewN|apply Kd.R_drew);exact HO_8.out) hb);have n3_:=Zz.mk (Kd.V_lower (Kd.V_mono (ok':=fun k_=>some k_ ≠ (u6:Value).ownBlock∧some k_ ≠ (.slice Ao54 t495.length co54:Value).ownBlock∧some k_ ≠ (.slice (some ad511) x8_1.length co51:Value).ownBlock∧k_ ≠ gb490) ho0 (fun k_ hk_=>⟨(Kd.fresh' (Kd.R_lt (by (with_reducible repeat first|apply Kd.R_alloc|apply Kd.R_drewN|apply Kd.R_drew);exact HO_6.out)) k_ hk_),(Kd.fresh' (Kd.R_lt (by (with_reducible repeat first|apply Kd.R_alloc|apply Kd.R_drewN|apply Kd.R_drew);exact HO_7.out)) k_ hk_),(Kd.fresh' (Kd.R_lt (by (with_reducible repeat first|apply Kd.R_alloc|apply Kd.R_drewN|apply Kd.R_drew);exact HO_8.out)) k_ hk_),(Kd.freshB (g:=gb490) (o:=.cells #[.slice A0_0 l0_0.length c0_0] 31 (0,0)) (by (with_reducible repeat first|apply bN|apply bD|apply bA);exact BK490.out) k_ hk_)⟩)) (qZ (by repeat (first|(with_reducible first|exact HB.out|apply qA|apply qN|apply q1_|refine qS ?_ GE490.out)|exact HB.out))));have n4_:=Zz.mk (bB (g:=gb490) (o:=.cells #[.slice A0_0 l0_0.length c0_0] 31 (0,0)) (by (with_reducible repeat first|apply bN|apply bD|apply bA);exact BK490.out) hb);have n5_:=Zz.mk (qP (by repeat (first|(with_reducible first|exact HB.out|apply qA|apply qN|apply q1_|refine qS ?_ GE490.out)|exact HB.out)) hb);clear HO_6;clear HO_7;clear HO_8;clear BK490;clear HB;have HO_6:=n0_;have HO_7:=n1_;have HO_8:=n2_;have HO514:=n3_;have BK490:=n4_;have HB:=n5_;clear n0_ n1_ n2_ n3_ n4_ n5_;(try clear hb);(try clear hb2);(try clear hk);(try clear hi);(try clear ho0);obtain ⟨Ao56,co56,eo56⟩:=Kd.V_slice HO514.out;subst eo56));try go_wp2_with (first|(go_at_call 28;(with_reducible refine (spec_l3Matches.calls k2 _ _ t495 a1 x13_2 t512 _ ?side1 ?side2 A53.out).mono ?_);(case side1=>repeat (first|exact (Kd.R_reads' HO_7.out).2.2|(with_reducible refine Kd.C_alloc ?_ _)|(with_reducible refine Kd.C_drewN ?_ _)|(with_reducible refine Kd.C_drew ?_)));(case side2=>exact (Kd.R_reads' HO_7.out).2.1);rintro e w55 ⟨v513,rfl,ho0,hb⟩;have n0_:=Zz.mk (Kd.R_below (by (with_reducible repeat first|apply Kd.R_alloc|apply Kd.R_drewN|apply Kd.R_drew);exact HO_6.out) hb);have n1_:=Zz.mk (Kd.R_below (by (with_reducible repeat first|apply Kd.R_alloc|apply Kd.R_drewN|apply Kd.R_drew);exact HO_7.out) hb);have n2_:=Zz.mk (Kd.R_below (by (with_reducible repeat first|apply Kd.R_alloc|apply Kd.R_drewN|apply Kd.R_drew);exact HO_8.out) hb);have n3_:=Zz.mk (Kd.V_lower (Kd.V_mono (ok':=fun k_=>some k_ ≠ (u6:Value).ownBlock∧some k_ ≠ (.slice Ao54 t495.length co54:Value).ownBlock∧some k_ ≠ (.slice (some ad511) x8_1.length co51:Value).ownBlock∧k_ ≠ gb490) ho0 (fun k_ hk_=>⟨(Kd.fresh' (Kd.R_lt (by (with_reducible repeat first|apply Kd.R_alloc|apply Kd.R_drewN|apply Kd.R_drew);exact HO_6.out)) k_ hk_),(Kd.fresh' (Kd.R_lt (by (with_reducible repeat first|apply Kd.R_alloc|apply Kd.R_drewN|apply Kd.R_drew);exact HO_7.out)) k_ hk_),(Kd.fresh' (Kd.R_lt (by (with_reducible repeat first|apply Kd.R_alloc|apply Kd.R_drewN|apply Kd.R_drew);exact HO_8.out)) k_ hk_),(Kd.freshB (g:=gb490) (o:=.cells #[.slice A0_0 l0_0.length c0_0] 31 (0,0)) (by (with_reducible repeat first|apply bN|apply bD|apply bA);exact BK490.out) k_ hk_)⟩)) (qZ (by repeat (first|(with_reducible first|exact HB.out|apply qA|apply qN|apply q1_|refine qS ?_ GE490.out)|exact HB.out))));have n4_:=Zz.mk (bB (g:=gb490) (o:=.cells #[.slice A0_0 l0_0.length c0_0] 31 (0,0)) (by (with_reducible repeat first|apply bN|apply bD|apply bA);exact BK490.out) hb);have n5_:=Zz.mk (qP (by repeat (first|(with_reducible first|exact HB.out|apply qA|apply qN|apply q1_|refine qS ?_ GE490.out)|exact HB.out)) hb);clear HO_6;clear HO_7;clear HO_8;clear BK490;clear HB;have HO_6:=n0_;have HO_7:=n1_;have HO_8:=n2_;have HO514:=n3_;have BK490:=n4_;have HB:=n5_;clear n0_ n1_ n2_ n3_ n4_ n5_;(try clear hb);(try clear hb2);(try clear hk);(try clear hi);(try clear ho0);obtain ⟨Ao56,co56,eo56⟩:=Kd.V_slice HO514.out;subst eo56)))
            go_loopg [15] k2 (fun kq v15 w'=>∃ (x15_3:Int),v15=.int .i64 x15_3∧Zz (spec_BestSplit.l3 kq a1 x6_2 t495 x8_1 x13_2 t512 x15_3=some (r1,r2))∧Zz (kq≤k2)∧Zz (Kd.R Kd.string 9 w' w.heap.size (fun k_=>some k_ ≠ ((.slice Ao54 t495.length co54):Value).ownBlock) u6 x6_2)∧Zz (Kd.R Kd.string 9 w' w.heap.size (fun k_=>some k_ ≠ (u6:Value).ownBlock) (.slice Ao54 t495.length co54) t495)∧Zz (Kd.R (Kd.int .i64) 3 w' w.heap.size (fun _=>True) (.slice (some ad511) x8_1.length co51) x8_1)∧Zz (Kd.V (Kd.int .i64) 3 w' w.heap.size (fun k_=>some k_ ≠ (u6:Value).ownBlock∧some k_ ≠ ((.slice Ao54 t495.length co54):Value).ownBlock∧some k_ ≠ ((.slice (some ad511) x8_1.length co51):Value).ownBlock∧k_ ≠ gb490) (.slice Ao56 t512.length co56) t512)∧Zz (w'.heap[gb490]?=some (.cells #[(.slice A0_0 l0_0.length c0_0)] 31 (0,0)))∧Zz (Below w.heap.size w w'))
            case atStart=>exact ⟨(wrap64 ((t512.length:Int) - 1)),(by first|rfl|(simp;done)|(simp [*];done)),H',⟨Nat.le_refl _⟩,⟨by (with_reducible repeat first|apply Kd.R_alloc|apply Kd.R_drewN|apply Kd.R_drew);exact HO_6.out⟩,⟨by (with_reducible repeat first|apply Kd.R_alloc|apply Kd.R_drewN|apply Kd.R_drew);exact HO_7.out⟩,⟨by (with_reducible repeat first|apply Kd.R_alloc|apply Kd.R_drewN|apply Kd.R_drew);exact HO_8.out⟩,⟨by (with_reducible repeat (first|apply Kd.V_alloc|apply Kd.V_drewN|apply Kd.V_drew));exact HO514.out⟩,⟨by (with_reducible repeat first|apply bN|apply bD|apply bA);exact BK490.out⟩,⟨by repeat (first|(with_reducible first|exact HB.out|apply qA|apply qN|apply q1_|refine qS ?_ GE490.out)|exact HB.out)⟩⟩
            case round =>
             clear H'
             try clear c1
             try clear c2
             try clear p2
             try clear q2
             try clear hx2
             try clear hf2
             try clear c3
             try clear p3
             try clear q3
             try clear hx3
             try clear hf3
             try clear c4
             try clear p4
             try clear q4
             try clear hx4
             try clear hf4
             try clear c5
             try clear p5
             try clear q5
             try clear hx5
             try clear qi5
             try clear p6
             try clear c7
             try clear c7b0
             try clear c7b1
             try clear c8
             try clear c8b0
             try clear c8b1
             try clear c18
             try clear c18b0
             try clear c19
             try clear c19b0
             try clear c20
             try clear c20b0
             try clear p21
             try clear q21
             try clear hx21
             try clear hf21
             try clear c27
             try clear c27b0
             try clear c28
             try clear c28b0
             try clear c30
             try clear c30b0
             try clear c31
             try clear c31b0
             try clear c32
             try clear c32b0
             try clear c33
             try clear c33b0
             try clear c34
             try clear c34b0
             try clear c35
             try clear c35b0
             try clear p36
             try clear q36
             try clear hx36
             try clear hf36
             try clear c40
             try clear c40b0
             try clear p41
             try clear q41
             try clear hx41
             try clear hf41
             try clear c48
             try clear c48b0
             try clear c48b1
             try clear c49
             try clear c49b0
             try clear p50
             try clear q50
             try clear hx50
             try clear p51
             try clear q51
             try clear hx51
             try clear qi51
             try clear c52
             try clear c52b0
             try clear hcz12_0
             try clear hcz14_0
             try clear hfz12_0
             try clear hfz14_0
             try clear hx21_0
             try clear hx36_0
             try clear hx41_0
             try clear hx505_0
             try clear hx506_0
             try clear hx507_0
             try clear hx509_0
             try clear hx511_0
             try clear p2
             try clear p21
             try clear p3
             try clear p36
             try clear p4
             try clear p41
             try clear p5
             try clear p50
             try clear p505
             try clear p506
             try clear p507
             try clear p509
             try clear p51
             try clear p511
             try clear p6
             try clear q2
             try clear q21
             try clear q3
             try clear q36
             try clear q4
             try clear q41
             try clear q5
             try clear q50
             try clear q505
             try clear q506
             try clear q507
             try clear q509
             try clear q51
             try clear q511
             obtain ⟨x15_3,rfl,HA,HK3,HO_6,HO_7,HO_8,HO_14,BK490,HB⟩:=hrel
             cases gk with
             | zero=>exact absurd HA.out (by simp [spec_BestSplit.l3])
             | succ k3 =>
              have H:=HA.out
              clear HA
              simp only [spec_BestSplit.l3] at H
              by_cases c57:0≤x15_3
              ·rw [if_pos c57] at H
               have c57b0:decide (0≤x15_3)=true:=decide_eq_true c57
               clear c57
               by_cases c58:x15_3<(t512.length:Int)
               ·rw [if_pos c58] at H
                have c58b0:decide (x15_3<(t512.length:Int))=true:=decide_eq_true c58
                clear c58
                obtain ⟨ji59,hji59⟩:∃ j_:Int,(wrap64 (x13_2+(rd t512 x15_3)))=j_:=⟨_,rfl⟩
                replace H:(if 0≤(ji59) then (if (ji59)<(x8_1.length:Int) then (if 0≤x13_2 then (if x13_2<(x8_1.length:Int) then (if (rd x8_1 (ji59))=(wrap64 ((rd x8_1 x13_2) - 1)) then (if x13_2≤(ji59) then (if (ji59)≤(a1.size:Int) then (if x6_2.length<8796093022208 then (spec_BestSplit.l2 k3 a1 (x6_2 ++ [a1.extract (x13_2:Int).toNat ((ji59):Int).toNat]) t495 x8_1 ji59) else (none)) else (none)) else (none)) else (spec_BestSplit.l3 k3 a1 x6_2 t495 x8_1 x13_2 t512 (wrap64 (x15_3 - 1)))) else (none)) else (none)) else (none)) else (none))=some (r1,r2):=by first|(rw [hji59] at H;exact H)|(simp only [hji59] at H ⊢;exact H)
                have hji59w:(IntKind.i64.wrap (x13_2+(rd t512 x15_3)))=ji59:=(i64_w _).trans hji59
                by_cases c60:0≤(ji59)
                ·rw [if_pos c60] at H
                 have c60b0:decide (0≤(ji59))=true:=decide_eq_true c60
                 clear c60
                 by_cases c61:(ji59)<(x8_1.length:Int)
                 ·rw [if_pos c61] at H
                  have c61b0:decide ((ji59)<(x8_1.length:Int))=true:=decide_eq_true c61
                  clear c61
                  by_cases c62:0≤x13_2
                  ·rw [if_pos c62] at H
                   have c62b0:decide (0≤x13_2)=true:=decide_eq_true c62
                   clear c62
                   by_cases c63:x13_2<(x8_1.length:Int)
                   ·rw [if_pos c63] at H
                    have c63b0:decide (x13_2<(x8_1.length:Int))=true:=decide_eq_true c63
                    clear c63
                    by_cases c64:(rd x8_1 (ji59))=(wrap64 ((rd x8_1 x13_2) - 1))
                    ·rw [if_pos c64] at H
                     have c64b0:((rd x8_1 (ji59)) == (wrap64 ((rd x8_1 x13_2) - 1)))=true:=beq_iff_eq.mpr c64
                     have c64b1:((rd x8_1 (ji59)) != (wrap64 ((rd x8_1 x13_2) - 1)))=false:=bne_eq_false_iff_eq.mpr c64
                     clear c64
                     have c65b0:=eq_true (of_decide_eq_true (by first|(with_reducible assumption)|assumption):0≤x13_2)
                     by_cases c66:x13_2≤(ji59)
                     ·rw [if_pos c66] at H
                      have c66b0:=eq_true c66
                      have c66b1:decide (x13_2≤(ji59))=true:=decide_eq_true c66
                      clear c66
                      by_cases c67:(ji59)≤(a1.size:Int)
                      ·rw [if_pos c67] at H
                       have c67b0:=eq_true c67
                       have c67b1:decide ((ji59)≤(a1.size:Int))=true:=decide_eq_true c67
                       clear c67
                       by_cases c68:x6_2.length<8796093022208
                       ·rw [if_pos c68] at H
                        have LMc68:=Zz.mk c68
                        clear c68
                        obtain ⟨y519,hy519⟩:∃ y_:List ByteArray,y_=(x6_2 ++ [a1.extract (x13_2:Int).toNat ((ji59):Int).toNat]):=⟨_,rfl⟩
                        replace H:(spec_BestSplit.l2 k3 a1 y519 t495 x8_1 ji59)=some (r1,r2):=by first|(rw [hy519];with_reducible exact H)|(have H2_:=(Option.bind_some _ _).symm.trans H;rw [hy519];with_reducible exact H2_)|(have H2_:=(Option.bind_some _ _).symm.trans H;with_reducible exact H2_)|with_reducible exact H|(rw [hy519];exact H)|exact H
                        have Ny519:=Zz.mk hy519
                        clear hy519
                        have H':=Zz.mk H
                        clear H
                        have p515:0≤(x15_3:Int):=of_decide_eq_true (by first|(with_reducible assumption)|assumption)
                        have q515:x15_3<(t512.length:Int):=of_decide_eq_true (by first|(with_reducible assumption)|assumption)
                        obtain ⟨ad515,e515,hx515_0⟩:=Kd.at_int (Kd.V_reads' HO_14.out).2.2 x15_3 p515 q515
                        cases e515
                        replace p515:=eq_true p515
                        replace q515:=eq_true q515
                        have p516:0≤((ji59):Int):=of_decide_eq_true (by first|(with_reducible assumption)|assumption)
                        have q516:(ji59)<(x8_1.length:Int):=of_decide_eq_true (by first|(with_reducible assumption)|assumption)
                        obtain ⟨ad516,e516,hx516_0⟩:=Kd.at_int (Kd.R_reads' HO_8.out).2.2 (ji59) p516 q516
                        obtain rfl:ad511=ad516:=(by injection e516)
                        replace p516:=eq_true p516
                        replace q516:=eq_true q516
                        have p517:0≤(x13_2:Int):=of_decide_eq_true (by first|(with_reducible assumption)|assumption)
                        have q517:x13_2<(x8_1.length:Int):=of_decide_eq_true (by first|(with_reducible assumption)|assumption)
                        obtain ⟨ad517,e517,hx517_0⟩:=Kd.at_int (Kd.R_reads' HO_8.out).2.2 x13_2 p517 q517
                        obtain rfl:ad511=ad517:=(by injection e517)
                        replace p517:=eq_true p517
                        replace q517:=eq_true q517
                        have p518:0≤(x15_3:Int):=of_decide_eq_true (by first|(with_reducible assumption)|assumption)
                        have q518:x15_3<(t512.length:Int):=of_decide_eq_true (by first|(with_reducible assumption)|assumption)
                        obtain ⟨ad518,e518,hx518_0⟩:=Kd.at_int (Kd.V_reads' HO_14.out).2.2 x15_3 p518 q518
                        obtain rfl:ad515=ad518:=(by injection e518)
                        replace p518:=eq_true p518
                        replace q518:=eq_true q518
                        go_wp2_with (first|((with_reducible refine gate_builtin (b:=.append) (xs:=#[.tmp 113,.tmp 123]) rfl ?_);at_builtin;refine Kd.R_append Kd.string (w0:=w) w.heap.size rfl (.tmp 113) (.tmp 123) 43 9 (.string ⟨#[]⟩) 16 rfl Tryz.underlying43 info9 rfl (by decide) (by omega) u6 x6_2 (a1.extract (x13_2:Int).toNat ((ji59):Int).toNat) [.string (a1.extract (x13_2:Int).toNat ((ji59):Int).toNat)] (fun k_=>some k_ ≠ (.slice Ao54 t495.length co54:Value).ownBlock) (fun _=>False) rfl rfl ?aP (fun _ hk=>hk.elim) ?aF ?aO ?aB ?aS ?aL ?_;(case aP=>exact rfl);(case aB=>exact (by repeat (first|(with_reducible first|exact HB.out|apply qA|apply qN|apply q1_|refine qS ?_ GE490.out)|exact HB.out)));(case aF=>exact (fun k_ hk=>Kd.fresh' (Kd.R_lt (by (with_reducible repeat first|apply Kd.R_alloc|apply Kd.R_drewN|apply Kd.R_drew);exact HO_7.out)) k_ hk));(case aO=>exact (by (with_reducible repeat first|apply Kd.R_alloc|apply Kd.R_drewN|apply Kd.R_drew);exact HO_6.out));(case aS=>exact (qZ (by repeat (first|(with_reducible first|exact HB.out|apply qA|apply qN|apply q1_|refine qS ?_ GE490.out)|exact HB.out))));(case aL=>have:=LMc68.out;omega);intro v520 w69 ho hb hg hat;rw [← Ny519.out] at ho;have n0_:=Zz.mk (Kd.R_after (ok:=(fun _=>True)) (by (with_reducible repeat first|apply Kd.R_alloc|apply Kd.R_drewN|apply Kd.R_drew);exact Kd.R_mono HO_7.out (fun _ hk=>⟨trivial,hk⟩)) hg hat);have n1_:=Zz.mk (Kd.R_over' (by (with_reducible repeat first|apply Kd.R_alloc|apply Kd.R_drewN|apply Kd.R_drew);exact HO_8.out) (Kd.R_typed (by (with_reducible repeat first|apply Kd.R_alloc|apply Kd.R_drewN|apply Kd.R_drew);exact HO_6.out)) (by decide) hg);have n2_:=Zz.mk (Kd.V_afterv (ok:=(fun k_=>some k_ ≠ (.slice Ao54 t495.length co54:Value).ownBlock∧some k_ ≠ (.slice (some ad511) x8_1.length co51:Value).ownBlock∧k_ ≠ gb490)) (by (with_reducible repeat (first|apply Kd.V_alloc|apply Kd.V_drewN|apply Kd.V_drew));exact Kd.V_mono HO_14.out (fun _ hk=>⟨⟨hk.2.1,⟨hk.2.2.1,hk.2.2.2⟩⟩,hk.1⟩)) hg hat);have n3_:=Zz.mk (blk_grown (g:=gb490) (o:=.cells #[.slice A0_0 l0_0.length c0_0] 31 (0,0)) (by (with_reducible repeat first|apply bN|apply bD|apply bA);exact BK490.out) hg (Kd.R_ne HO_6.out BK490.out (by decide)));have n4_:=Zz.mk (hb);have n5_:=Zz.mk (ho);clear HO_7;clear HO_8;clear HO_14;clear BK490;clear HB;clear HO_6;have HO_7:=n0_;have HO_8:=n1_;have HO_14:=n2_;have BK490:=n3_;have HB:=n4_;have HO521:=n5_;clear n0_ n1_ n2_ n3_ n4_ n5_;clear ho hb hg hat;have p522:0≤(x15_3:Int):=of_decide_eq_true (by first|(with_reducible assumption)|assumption);have q522:x15_3<(t512.length:Int):=of_decide_eq_true (by first|(with_reducible assumption)|assumption);obtain ⟨ad522,e522,hx522_0⟩:=Kd.at_int (Kd.V_reads' HO_14.out).2.2 x15_3 p522 q522;obtain rfl:ad515=ad522:=(by injection e522);replace p522:=eq_true p522;replace q522:=eq_true q522))
                        repeat (go_quiet (first|((with_reducible refine gate_builtin (b:=.append) (xs:=#[.tmp 113,.tmp 123]) rfl ?_);at_builtin;refine Kd.R_append Kd.string (w0:=w) w.heap.size rfl (.tmp 113) (.tmp 123) 43 9 (.string ⟨#[]⟩) 16 rfl Tryz.underlying43 info9 rfl (by decide) (by omega) u6 x6_2 (a1.extract (x13_2:Int).toNat ((ji59):Int).toNat) [.string (a1.extract (x13_2:Int).toNat ((ji59):Int).toNat)] (fun k_=>some k_ ≠ (.slice Ao54 t495.length co54:Value).ownBlock) (fun _=>False) rfl rfl ?aP (fun _ hk=>hk.elim) ?aF ?aO ?aB ?aS ?aL ?_;(case aP=>exact rfl);(case aB=>exact (by repeat (first|(with_reducible first|exact HB.out|apply qA|apply qN|apply q1_|refine qS ?_ GE490.out)|exact HB.out)));(case aF=>exact (fun k_ hk=>Kd.fresh' (Kd.R_lt (by (with_reducible repeat first|apply Kd.R_alloc|apply Kd.R_drewN|apply Kd.R_drew);exact HO_7.out)) k_ hk));(case aO=>exact (by (with_reducible repeat first|apply Kd.R_alloc|apply Kd.R_drewN|apply Kd.R_drew);exact HO_6.out));(case aS=>exact (qZ (by repeat (first|(with_reducible first|exact HB.out|apply qA|apply qN|apply q1_|refine qS ?_ GE490.out)|exact HB.out))));(case aL=>have:=LMc68.out;omega);intro v520 w69 ho hb hg hat;rw [← Ny519.out] at ho;have n0_:=Zz.mk (Kd.R_after (ok:=(fun _=>True)) (by (with_reducible repeat first|apply Kd.R_alloc|apply Kd.R_drewN|apply Kd.R_drew);exact Kd.R_mono HO_7.out (fun _ hk=>⟨trivial,hk⟩)) hg hat);have n1_:=Zz.mk (Kd.R_over' (by (with_reducible repeat first|apply Kd.R_alloc|apply Kd.R_drewN|apply Kd.R_drew);exact HO_8.out) (Kd.R_typed (by (with_reducible repeat first|apply Kd.R_alloc|apply Kd.R_drewN|apply Kd.R_drew);exact HO_6.out)) (by decide) hg);have n2_:=Zz.mk (Kd.V_afterv (ok:=(fun k_=>some k_ ≠ (.slice Ao54 t495.length co54:Value).ownBlock∧some k_ ≠ (.slice (some ad511) x8_1.length co51:Value).ownBlock∧k_ ≠ gb490)) (by (with_reducible repeat (first|apply Kd.V_alloc|apply Kd.V_drewN|apply Kd.V_drew));exact Kd.V_mono HO_14.out (fun _ hk=>⟨⟨hk.2.1,⟨hk.2.2.1,hk.2.2.2⟩⟩,hk.1⟩)) hg hat);have n3_:=Zz.mk (blk_grown (g:=gb490) (o:=.cells #[.slice A0_0 l0_0.length c0_0] 31 (0,0)) (by (with_reducible repeat first|apply bN|apply bD|apply bA);exact BK490.out) hg (Kd.R_ne HO_6.out BK490.out (by decide)));have n4_:=Zz.mk (hb);have n5_:=Zz.mk (ho);clear HO_7;clear HO_8;clear HO_14;clear BK490;clear HB;clear HO_6;have HO_7:=n0_;have HO_8:=n1_;have HO_14:=n2_;have BK490:=n3_;have HB:=n4_;have HO521:=n5_;clear n0_ n1_ n2_ n3_ n4_ n5_;clear ho hb hg hat;have p522:0≤(x15_3:Int):=of_decide_eq_true (by first|(with_reducible assumption)|assumption);have q522:x15_3<(t512.length:Int):=of_decide_eq_true (by first|(with_reducible assumption)|assumption);obtain ⟨ad522,e522,hx522_0⟩:=Kd.at_int (Kd.V_reads' HO_14.out).2.2 x15_3 p522 q522;obtain rfl:ad515=ad522:=(by injection e522);replace p522:=eq_true p522;replace q522:=eq_true q522));try go_wp2_with (first|((with_reducible refine gate_builtin (b:=.append) (xs:=#[.tmp 113,.tmp 123]) rfl ?_);at_builtin;refine Kd.R_append Kd.string (w0:=w) w.heap.size rfl (.tmp 113) (.tmp 123) 43 9 (.string ⟨#[]⟩) 16 rfl Tryz.underlying43 info9 rfl (by decide) (by omega) u6 x6_2 (a1.extract (x13_2:Int).toNat ((ji59):Int).toNat) [.string (a1.extract (x13_2:Int).toNat ((ji59):Int).toNat)] (fun k_=>some k_ ≠ (.slice Ao54 t495.length co54:Value).ownBlock) (fun _=>False) rfl rfl ?aP (fun _ hk=>hk.elim) ?aF ?aO ?aB ?aS ?aL ?_;(case aP=>exact rfl);(case aB=>exact (by repeat (first|(with_reducible first|exact HB.out|apply qA|apply qN|apply q1_|refine qS ?_ GE490.out)|exact HB.out)));(case aF=>exact (fun k_ hk=>Kd.fresh' (Kd.R_lt (by (with_reducible repeat first|apply Kd.R_alloc|apply Kd.R_drewN|apply Kd.R_drew);exact HO_7.out)) k_ hk));(case aO=>exact (by (with_reducible repeat first|apply Kd.R_alloc|apply Kd.R_drewN|apply Kd.R_drew);exact HO_6.out));(case aS=>exact (qZ (by repeat (first|(with_reducible first|exact HB.out|apply qA|apply qN|apply q1_|refine qS ?_ GE490.out)|exact HB.out))));(case aL=>have:=LMc68.out;omega);intro v520 w69 ho hb hg hat;rw [← Ny519.out] at ho;have n0_:=Zz.mk (Kd.R_after (ok:=(fun _=>True)) (by (with_reducible repeat first|apply Kd.R_alloc|apply Kd.R_drewN|apply Kd.R_drew);exact Kd.R_mono HO_7.out (fun _ hk=>⟨trivial,hk⟩)) hg hat);have n1_:=Zz.mk (Kd.R_over' (by (with_reducible repeat first|apply Kd.R_alloc|apply Kd.R_drewN|apply Kd.R_drew);exact HO_8.out) (Kd.R_typed (by (with_reducible repeat first|apply Kd.R_alloc|apply Kd.R_drewN|apply Kd.R_drew);exact HO_6.out)) (by decide) hg);have n2_:=Zz.mk (Kd.V_afterv (ok:=(fun k_=>some k_ ≠ (.slice Ao54 t495.length co54:Value).ownBlock∧some k_ ≠ (.slice (some ad511) x8_1.length co51:Value).ownBlock∧k_ ≠ gb490)) (by (with_reducible repeat (first|apply Kd.V_alloc|apply Kd.V_drewN|apply Kd.V_drew));exact Kd.V_mono HO_14.out (fun _ hk=>⟨⟨hk.2.1,⟨hk.2.2.1,hk.2.2.2⟩⟩,hk.1⟩)) hg hat);have n3_:=Zz.mk (blk_grown (g:=gb490) (o:=.cells #[.slice A0_0 l0_0.length c0_0] 31 (0,0)) (by (with_reducible repeat first|apply bN|apply bD|apply bA);exact BK490.out) hg (Kd.R_ne HO_6.out BK490.out (by decide)));have n4_:=Zz.mk (hb);have n5_:=Zz.mk (ho);clear HO_7;clear HO_8;clear HO_14;clear BK490;clear HB;clear HO_6;have HO_7:=n0_;have HO_8:=n1_;have HO_14:=n2_;have BK490:=n3_;have HB:=n4_;have HO521:=n5_;clear n0_ n1_ n2_ n3_ n4_ n5_;clear ho hb hg hat;have p522:0≤(x15_3:Int):=of_decide_eq_true (by first|(with_reducible assumption)|assumption);have q522:x15_3<(t512.length:Int):=of_decide_eq_true (by first|(with_reducible assumption)|assumption);obtain ⟨ad522,e522,hx522_0⟩:=Kd.at_int (Kd.V_reads' HO_14.out).2.2 x15_3 p522 q522;obtain rfl:ad515=ad522:=(by injection e522);replace p522:=eq_true p522;replace q522:=eq_true q522)))
                        go_roundg k3
                        case measure=>have:=HK1.out;have:=HK2.out;have:=HK3.out;omega
                        case rel=>exact ⟨(y519),(ji59),(by first|rfl|(simp;done)|(simp only [← hji59] <;> (first|rfl|simp))|(simp [*];done)),H',⟨by have:=HK1.out;have:=HK2.out;have:=HK3.out;omega⟩,⟨by (with_reducible repeat first|apply Kd.R_alloc|apply Kd.R_drewN|apply Kd.R_drew);exact HO521.out⟩,⟨by (with_reducible repeat first|apply Kd.R_alloc|apply Kd.R_drewN|apply Kd.R_drew);exact Kd.R_mono HO_7.out (fun _ hk=>hk.2)⟩,⟨by (with_reducible repeat first|apply Kd.R_alloc|apply Kd.R_drewN|apply Kd.R_drew);exact HO_8.out⟩,⟨by (with_reducible repeat first|apply bN|apply bD|apply bA);exact BK490.out⟩,⟨by repeat (first|(with_reducible first|exact HB.out|apply qA|apply qN|apply q1_|refine qS ?_ GE490.out)|exact HB.out)⟩⟩
                       ·rw [if_neg c68] at H
                        exact absurd H (by simp)
                      ·rw [if_neg c67] at H
                       exact absurd H (by simp)
                     ·rw [if_neg c66] at H
                      exact absurd H (by simp)
                    ·rw [if_neg c64] at H
                     have c64b0:((rd x8_1 (ji59)) == (wrap64 ((rd x8_1 x13_2) - 1)))=false:=beq_eq_false_iff_ne.mpr c64
                     have c64b1:((rd x8_1 (ji59)) != (wrap64 ((rd x8_1 x13_2) - 1)))=true:=bne_iff_ne.mpr c64
                     have H':=Zz.mk H
                     clear H
                     have p515:0≤(x15_3:Int):=of_decide_eq_true (by first|(with_reducible assumption)|assumption)
                     have q515:x15_3<(t512.length:Int):=of_decide_eq_true (by first|(with_reducible assumption)|assumption)
                     obtain ⟨ad515,e515,hx515_0⟩:=Kd.at_int (Kd.V_reads' HO_14.out).2.2 x15_3 p515 q515
                     cases e515
                     replace p515:=eq_true p515
                     replace q515:=eq_true q515
                     have p516:0≤((ji59):Int):=of_decide_eq_true (by first|(with_reducible assumption)|assumption)
                     have q516:(ji59)<(x8_1.length:Int):=of_decide_eq_true (by first|(with_reducible assumption)|assumption)
                     obtain ⟨ad516,e516,hx516_0⟩:=Kd.at_int (Kd.R_reads' HO_8.out).2.2 (ji59) p516 q516
                     obtain rfl:ad511=ad516:=(by injection e516)
                     replace p516:=eq_true p516
                     replace q516:=eq_true q516
                     have p517:0≤(x13_2:Int):=of_decide_eq_true (by first|(with_reducible assumption)|assumption)
                     have q517:x13_2<(x8_1.length:Int):=of_decide_eq_true (by first|(with_reducible assumption)|assumption)
                     obtain ⟨ad517,e517,hx517_0⟩:=Kd.at_int (Kd.R_reads' HO_8.out).2.2 x13_2 p517 q517
                     obtain rfl:ad511=ad517:=(by injection e517)
                     replace p517:=eq_true p517
                     replace q517:=eq_true q517
                     go_wp2
                     repeat (go_quiet (fail);try go_wp2)
                     go_roundg k3
                     case measure=>have:=HK1.out;have:=HK2.out;have:=HK3.out;omega
                     case rel=>exact ⟨(wrap64 (x15_3 - 1)),(by first|rfl|(simp;done)|(simp [*];done)),H',⟨by have:=HK1.out;have:=HK2.out;have:=HK3.out;omega⟩,⟨by (with_reducible repeat first|apply Kd.R_alloc|apply Kd.R_drewN|apply Kd.R_drew);exact HO_6.out⟩,⟨by (with_reducible repeat first|apply Kd.R_alloc|apply Kd.R_drewN|apply Kd.R_drew);exact HO_7.out⟩,⟨by (with_reducible repeat first|apply Kd.R_alloc|apply Kd.R_drewN|apply Kd.R_drew);exact HO_8.out⟩,⟨by (with_reducible repeat (first|apply Kd.V_alloc|apply Kd.V_drewN|apply Kd.V_drew));exact HO_14.out⟩,⟨by (with_reducible repeat first|apply bN|apply bD|apply bA);exact BK490.out⟩,⟨by repeat (first|(with_reducible first|exact HB.out|apply qA|apply qN|apply q1_|refine qS ?_ GE490.out)|exact HB.out)⟩⟩
                   ·rw [if_neg c63] at H
                    exact absurd H (by simp)
                  ·rw [if_neg c62] at H
                   exact absurd H (by simp)
                 ·rw [if_neg c61] at H
                  exact absurd H (by simp)
                ·rw [if_neg c60] at H
                 exact absurd H (by simp)
               ·rw [if_neg c58] at H
                exact absurd H (by simp)
              ·rw [if_neg c57] at H
               exact absurd H (by simp)
           ·rw [if_neg c52] at H
            have c52b0:decide (x13_2<(a1.size:Int))=false:=decide_eq_false c52
            clear c52
            simp only [Option.some.injEq,Prod.mk.injEq] at H
            obtain ⟨rfl,rfl⟩:=H
            go_wp2
            repeat (go_quiet (fail);try go_wp2)
            go_ret2
            exact ⟨_,by first|rfl|(simp [errW_none,errW_some] <;> rfl)|(simp only [← hji6];first|rfl|(simp [errW_none,errW_some] <;> rfl))|(simp [*,errW_none,errW_some] <;> rfl),by (with_reducible repeat first|apply Kd.R_alloc|apply Kd.R_drewN|apply Kd.R_drew);exact Kd.R_mono HO_6.out (fun _ hk=>trivial),by repeat (first|(with_reducible first|exact HB.out|apply qA|apply qN|apply q1_|refine qS ?_ GE490.out)|exact HB.out)⟩
       ·rw [if_neg c48] at H
        exact absurd H (by simp)
   ·rw [if_neg c8] at H
    exact absurd H (by simp)
  ·rw [if_neg c7] at H
   exact absurd H (by simp)
 ·replace c4:=Bool.eq_false_iff.mpr c4
  subst c4
  have H1:(some (y491,false))=some (r1,r2):=by rw [if_neg (show ¬ (false=true) by decide)] at H;exact H
  clear H
  have H:=H1
  clear H1
  simp only [Option.some.injEq,Prod.mk.injEq] at H
  obtain ⟨rfl,rfl⟩:=H
  go_enter Tryz.func20,Tryz.ntmps20
  go_wp2_with (first|((with_reducible refine gate_dst (N:=2) rfl ?_);refine box_event ?hg (N:=2) ?hd (cs:=#[.slice A0_0 l0_0.length c0_0]) (t:=31) ?hr ?_;(case hd=>rfl);(case hg=>rfl);(case hr=>first|(go_simp;done)|(go_simp;rfl));intro gb490 hg w70 hbox hb;have n0_:=Zz.mk (qP (by repeat (first|(with_reducible first|exact HB.out|apply qA|apply qN|apply q1_)|exact HB.out)) hb);have n1_:=Zz.mk (hbox);have n2_:=Zz.mk ((by rw [hg];exact (qZ (by repeat (first|(with_reducible first|exact HB.out|apply qA|apply qN|apply q1_)|exact HB.out))):w.heap.size≤gb490));have n3_:=Zz.mk ((by rw [hg];exact (qZ (by repeat (first|(with_reducible first|exact HB.out|apply qA|apply qN|apply q1_)|exact HB.out))):w.heap.size≤gb490));clear HB;have HB:=n0_;have BK490:=n1_;have GW490:=n2_;have GE490:=n3_;clear n0_ n1_ n2_ n3_;clear hb hbox hg)|((with_reducible refine gate_dst (N:=16) rfl ?_);refine Kd.R_lit Kd.string _ 9 ?hg (N:=16) ?hd (xs:=([]:List ByteArray)) (inner:=[]) (ok:=fun _=>True) (okp:=fun _=>True) ?hr ?hp (fun _ hk=>hk) trivial (Below.refl _ _) (Nat.le_refl _) (by simp) ?_;(case hd=>rfl);(case hg=>rfl);(case hr=>first|(go_simp;done)|(go_simp;rfl));(case hp=>exact (Reps.none _ _));intro v492 w71 ho72 hb hg_ hnew_;clear hg_ hnew_;(first|rw [← Ny491.out] at ho72|(simp only [Int.reduceToNat] at ho72;rw [← Ny491.out] at ho72));have n0_:=Zz.mk (Kd.R_lower ho72 (qZ (by repeat (first|(with_reducible first|exact HB.out|apply qA|apply qN|apply q1_|refine qS ?_ GE490.out)|exact HB.out))));have n1_:=Zz.mk (bB (g:=gb490) (o:=.cells #[.slice A0_0 l0_0.length c0_0] 31 (0,0)) (by (with_reducible repeat first|apply bN|apply bD|apply bA);exact BK490.out) hb);have n2_:=Zz.mk (qP (by repeat (first|(with_reducible first|exact HB.out|apply qA|apply qN|apply q1_|refine qS ?_ GE490.out)|exact HB.out)) hb);clear BK490;clear HB;have HO493:=n0_;have BK490:=n1_;have HB:=n2_;clear n0_ n1_ n2_;clear hb ho72;have hcz73_0:w71.cell? ⟨gb490,0,none⟩=some (.slice A0_0 l0_0.length c0_0):=(bC BK490.out 0).trans rfl;have hfz73_0:=bF BK490.out 0)|(go_at_call 26;(with_reducible refine (spec_l3Good.calls k _ _ l0_0 a1 false _ ?side1 ?side2 A3.out).mono ?_);(case side1=>repeat (first|exact (Kd.C_below HR0_0.out HB.out)|(with_reducible refine Kd.C_alloc ?_ _)|(with_reducible refine Kd.C_drewN ?_ _)|(with_reducible refine Kd.C_drew ?_)));(case side2=>exact HC0_0.out);rintro e w74 ⟨rfl,hb⟩;have n0_:=Zz.mk (Kd.R_below (by (with_reducible repeat first|apply Kd.R_alloc|apply Kd.R_drewN|apply Kd.R_drew);exact HO493.out) hb);have n1_:=Zz.mk (bB (g:=gb490) (o:=.cells #[.slice A0_0 l0_0.length c0_0] 31 (0,0)) (by (with_reducible repeat first|apply bN|apply bD|apply bA);exact BK490.out) hb);have n2_:=Zz.mk (qP (by repeat (first|(with_reducible first|exact HB.out|apply qA|apply qN|apply q1_|refine qS ?_ GE490.out)|exact HB.out)) hb);clear HO493;clear BK490;clear HB;have HO493:=n0_;have BK490:=n1_;have HB:=n2_;clear n0_ n1_ n2_;(try clear hb);(try clear hb2);(try clear hk);(try clear hi)))
  repeat (go_quiet (first|((with_reducible refine gate_dst (N:=2) rfl ?_);refine box_event ?hg (N:=2) ?hd (cs:=#[.slice A0_0 l0_0.length c0_0]) (t:=31) ?hr ?_;(case hd=>rfl);(case hg=>rfl);(case hr=>first|(go_simp;done)|(go_simp;rfl));intro gb490 hg w70 hbox hb;have n0_:=Zz.mk (qP (by repeat (first|(with_reducible first|exact HB.out|apply qA|apply qN|apply q1_)|exact HB.out)) hb);have n1_:=Zz.mk (hbox);have n2_:=Zz.mk ((by rw [hg];exact (qZ (by repeat (first|(with_reducible first|exact HB.out|apply qA|apply qN|apply q1_)|exact HB.out))):w.heap.size≤gb490));have n3_:=Zz.mk ((by rw [hg];exact (qZ (by repeat (first|(with_reducible first|exact HB.out|apply qA|apply qN|apply q1_)|exact HB.out))):w.heap.size≤gb490));clear HB;have HB:=n0_;have BK490:=n1_;have GW490:=n2_;have GE490:=n3_;clear n0_ n1_ n2_ n3_;clear hb hbox hg)|((with_reducible refine gate_dst (N:=16) rfl ?_);refine Kd.R_lit Kd.string _ 9 ?hg (N:=16) ?hd (xs:=([]:List ByteArray)) (inner:=[]) (ok:=fun _=>True) (okp:=fun _=>True) ?hr ?hp (fun _ hk=>hk) trivial (Below.refl _ _) (Nat.le_refl _) (by simp) ?_;(case hd=>rfl);(case hg=>rfl);(case hr=>first|(go_simp;done)|(go_simp;rfl));(case hp=>exact (Reps.none _ _));intro v492 w71 ho72 hb hg_ hnew_;clear hg_ hnew_;(first|rw [← Ny491.out] at ho72|(simp only [Int.reduceToNat] at ho72;rw [← Ny491.out] at ho72));have n0_:=Zz.mk (Kd.R_lower ho72 (qZ (by repeat (first|(with_reducible first|exact HB.out|apply qA|apply qN|apply q1_|refine qS ?_ GE490.out)|exact HB.out))));have n1_:=Zz.mk (bB (g:=gb490) (o:=.cells #[.slice A0_0 l0_0.length c0_0] 31 (0,0)) (by (with_reducible repeat first|apply bN|apply bD|apply bA);exact BK490.out) hb);have n2_:=Zz.mk (qP (by repeat (first|(with_reducible first|exact HB.out|apply qA|apply qN|apply q1_|refine qS ?_ GE490.out)|exact HB.out)) hb);clear BK490;clear HB;have HO493:=n0_;have BK490:=n1_;have HB:=n2_;clear n0_ n1_ n2_;clear hb ho72;have hcz73_0:w71.cell? ⟨gb490,0,none⟩=some (.slice A0_0 l0_0.length c0_0):=(bC BK490.out 0).trans rfl;have hfz73_0:=bF BK490.out 0)|(go_at_call 26;(with_reducible refine (spec_l3Good.calls k _ _ l0_0 a1 false _ ?side1 ?side2 A3.out).mono ?_);(case side1=>repeat (first|exact (Kd.C_below HR0_0.out HB.out)|(with_reducible refine Kd.C_alloc ?_ _)|(with_reducible refine Kd.C_drewN ?_ _)|(with_reducible refine Kd.C_drew ?_)));(case side2=>exact HC0_0.out);rintro e w74 ⟨rfl,hb⟩;have n0_:=Zz.mk (Kd.R_below (by (with_reducible repeat first|apply Kd.R_alloc|apply Kd.R_drewN|apply Kd.R_drew);exact HO493.out) hb);have n1_:=Zz.mk (bB (g:=gb490) (o:=.cells #[.slice A0_0 l0_0.length c0_0] 31 (0,0)) (by (with_reducible repeat first|apply bN|apply bD|apply bA);exact BK490.out) hb);have n2_:=Zz.mk (qP (by repeat (first|(with_reducible first|exact HB.out|apply qA|apply qN|apply q1_|refine qS ?_ GE490.out)|exact HB.out)) hb);clear HO493;clear BK490;clear HB;have HO493:=n0_;have BK490:=n1_;have HB:=n2_;clear n0_ n1_ n2_;(try clear hb);(try clear hb2);(try clear hk);(try clear hi)));try go_wp2_with (first|((with_reducible refine gate_dst (N:=2) rfl ?_);refine box_event ?hg (N:=2) ?hd (cs:=#[.slice A0_0 l0_0.length c0_0]) (t:=31) ?hr ?_;(case hd=>rfl);(case hg=>rfl);(case hr=>first|(go_simp;done)|(go_simp;rfl));intro gb490 hg w70 hbox hb;have n0_:=Zz.mk (qP (by repeat (first|(with_reducible first|exact HB.out|apply qA|apply qN|apply q1_)|exact HB.out)) hb);have n1_:=Zz.mk (hbox);have n2_:=Zz.mk ((by rw [hg];exact (qZ (by repeat (first|(with_reducible first|exact HB.out|apply qA|apply qN|apply q1_)|exact HB.out))):w.heap.size≤gb490));have n3_:=Zz.mk ((by rw [hg];exact (qZ (by repeat (first|(with_reducible first|exact HB.out|apply qA|apply qN|apply q1_)|exact HB.out))):w.heap.size≤gb490));clear HB;have HB:=n0_;have BK490:=n1_;have GW490:=n2_;have GE490:=n3_;clear n0_ n1_ n2_ n3_;clear hb hbox hg)|((with_reducible refine gate_dst (N:=16) rfl ?_);refine Kd.R_lit Kd.string _ 9 ?hg (N:=16) ?hd (xs:=([]:List ByteArray)) (inner:=[]) (ok:=fun _=>True) (okp:=fun _=>True) ?hr ?hp (fun _ hk=>hk) trivial (Below.refl _ _) (Nat.le_refl _) (by simp) ?_;(case hd=>rfl);(case hg=>rfl);(case hr=>first|(go_simp;done)|(go_simp;rfl));(case hp=>exact (Reps.none _ _));intro v492 w71 ho72 hb hg_ hnew_;clear hg_ hnew_;(first|rw [← Ny491.out] at ho72|(simp only [Int.reduceToNat] at ho72;rw [← Ny491.out] at ho72));have n0_:=Zz.mk (Kd.R_lower ho72 (qZ (by repeat (first|(with_reducible first|exact HB.out|apply qA|apply qN|apply q1_|refine qS ?_ GE490.out)|exact HB.out))));have n1_:=Zz.mk (bB (g:=gb490) (o:=.cells #[.slice A0_0 l0_0.length c0_0] 31 (0,0)) (by (with_reducible repeat first|apply bN|apply bD|apply bA);exact BK490.out) hb);have n2_:=Zz.mk (qP (by repeat (first|(with_reducible first|exact HB.out|apply qA|apply qN|apply q1_|refine qS ?_ GE490.out)|exact HB.out)) hb);clear BK490;clear HB;have HO493:=n0_;have BK490:=n1_;have HB:=n2_;clear n0_ n1_ n2_;clear hb ho72;have hcz73_0:w71.cell? ⟨gb490,0,none⟩=some (.slice A0_0 l0_0.length c0_0):=(bC BK490.out 0).trans rfl;have hfz73_0:=bF BK490.out 0)|(go_at_call 26;(with_reducible refine (spec_l3Good.calls k _ _ l0_0 a1 false _ ?side1 ?side2 A3.out).mono ?_);(case side1=>repeat (first|exact (Kd.C_below HR0_0.out HB.out)|(with_reducible refine Kd.C_alloc ?_ _)|(with_reducible refine Kd.C_drewN ?_ _)|(with_reducible refine Kd.C_drew ?_)));(case side2=>exact HC0_0.out);rintro e w74 ⟨rfl,hb⟩;have n0_:=Zz.mk (Kd.R_below (by (with_reducible repeat first|apply Kd.R_alloc|apply Kd.R_drewN|apply Kd.R_drew);exact HO493.out) hb);have n1_:=Zz.mk (bB (g:=gb490) (o:=.cells #[.slice A0_0 l0_0.length c0_0] 31 (0,0)) (by (with_reducible repeat first|apply bN|apply bD|apply bA);exact BK490.out) hb);have n2_:=Zz.mk (qP (by repeat (first|(with_reducible first|exact HB.out|apply qA|apply qN|apply q1_|refine qS ?_ GE490.out)|exact HB.out)) hb);clear HO493;clear BK490;clear HB;have HO493:=n0_;have BK490:=n1_;have HB:=n2_;clear n0_ n1_ n2_;(try clear hb);(try clear hb2);(try clear hk);(try clear hi))))
  go_ret2
  exact ⟨_,by first|rfl|(simp [errW_none,errW_some] <;> rfl)|(simp [*,errW_none,errW_some] <;> rfl),by (with_reducible repeat first|apply Kd.R_alloc|apply Kd.R_drewN|apply Kd.R_drew);exact HO493.out,by repeat (first|(with_reducible first|exact HB.out|apply qA|apply qN|apply q1_|refine qS ?_ GE490.out)|exact HB.out)⟩
end Go.Proofs.YtadpmgdmiaoniaaGreatDoor.Q
namespace Go.Proofs.YtadpmgdmiaoniaaGreatDoor.Q
open Go.RowKit Go.Proofs.YtadpmgdmiaoniaaGreatDoorW.PrintWords Go.Proofs.YtadpmgdmiaoniaaGreatDoorW.PrintLast Go.Proofs.YtadpmgdmiaoniaaGreatDoorW.PrintMore
attribute [local go_sem] run_field_23 run_field_24 run_field_30 run_field_31 isSome_setCell max2_int min2_int max_two min_two max_three min_three max_four min_four   -- for this text's walks alone
set_option linter.unusedVariables false
set_option linter.unusedSimpArgs false
def laws_eqStringS.l0:Nat→List ByteArray→List ByteArray→Int→Option (Bool)
  | 0,_,_,_=>none
  | k+1,x0,x1,x5=>if x5<(x0.length:Int) then (if 0≤x5 then (if x5<(x1.length:Int) then (if (rdOf ByteArray.empty x0 x5).toList=(rdOf ByteArray.empty x1 x5).toList then (laws_eqStringS.l0 k x0 x1 (wrap64 (x5+1))) else (some false)) else (none)) else (none)) else (some true)
def laws_eqStringS.f (k:Nat) (l0:List ByteArray) (l1:List ByteArray):Option (Bool):=if (l0.length:Int)=(l1.length:Int) then (laws_eqStringS.l0 k l0 l1 0) else (some false)
set_option maxHeartbeats 8000000 in
set_option maxRecDepth 100000 in
theorem laws_eqStringS.calls (k:Nat) (A0:Option Addr) (c0:Nat) (l0:List ByteArray) (A1:Option Addr) (c1:Nat) (l1:List ByteArray) (r:Bool) (w:World) (hr0:Kd.C Kd.string w A0 l0.length l0) (hc0:l0.length≤c0) (hr1:Kd.C Kd.string w A1 l1.length l1) (hc1:l1.length≤c1) (h:laws_eqStringS.f k l0 l1=some r) :
  Calls Tryz.prog 22 #[.slice A0 l0.length c0,.slice A1 l1.length c1] w fun e w'=>e=.returned (.bool r)∧Drawn0 w w':=by
 have HR0:=Zz.mk hr0
 have HC0:=Zz.mk hc0
 clear hr0 hc0
 have HR1:=Zz.mk hr1
 have HC1:=Zz.mk hc1
 clear hr1 hc1
 have H:(if (l0.length:Int)=(l1.length:Int) then (laws_eqStringS.l0 k l0 l1 0) else (some false))=some r:=h
 clear h
 by_cases c3:(l0.length:Int)=(l1.length:Int)
 ·rw [if_pos c3] at H
  have c3b0:((l0.length:Int) == (l1.length:Int))=true:=beq_iff_eq.mpr c3
  have c3b1:((l0.length:Int) != (l1.length:Int))=false:=bne_eq_false_iff_eq.mpr c3
  have c3b2:(l0.length == l1.length)=true:=by first|simpa using c3|(simp at c3 ⊢;omega)
  clear c3
  have H':=Zz.mk H
  clear H
  go_enter Tryz.func22,Tryz.ntmps22
  go_wp2
  repeat (go_quiet (fail);try go_wp2)
  go_loopg [5] k (fun kq v5 w'=>∃ (x5_1:Int),v5=.int .i64 x5_1∧Zz (laws_eqStringS.l0 kq l0 l1 x5_1=some r)∧Zz (kq≤k)∧Drawn0 w w')
  case atStart=>exact ⟨(0),(by first|rfl|(simp;done)|(simp [*];done)),H',⟨Nat.le_refl _⟩,by repeat (first|exact Drawn0.refl _|apply Drawn0.step)⟩
  case round =>
   clear H'
   try clear c1
   try clear c2
   try clear p2
   try clear c3
   try clear c3b0
   try clear c3b1
   try clear c3b2
   obtain ⟨x5_1,rfl,HA,HK1,⟨m1,rfl⟩⟩:=hrel
   cases gk with
   | zero=>exact absurd HA.out (by simp [laws_eqStringS.l0])
   | succ k1 =>
    have H:=HA.out
    clear HA
    simp only [laws_eqStringS.l0] at H
    by_cases c4:x5_1<(l0.length:Int)
    ·rw [if_pos c4] at H
     have c4b0:decide (x5_1<(l0.length:Int))=true:=decide_eq_true c4
     clear c4
     by_cases c5:0≤x5_1
     ·rw [if_pos c5] at H
      have c5b0:decide (0≤x5_1)=true:=decide_eq_true c5
      clear c5
      by_cases c6:x5_1<(l1.length:Int)
      ·rw [if_pos c6] at H
       have c6b0:decide (x5_1<(l1.length:Int))=true:=decide_eq_true c6
       clear c6
       by_cases c7:(rdOf ByteArray.empty l0 x5_1).toList=(rdOf ByteArray.empty l1 x5_1).toList
       ·rw [if_pos c7] at H
        have c7b0:((rdOf ByteArray.empty l0 x5_1).toList == (rdOf ByteArray.empty l1 x5_1).toList)=true:=beq_iff_eq.mpr c7
        have c7b1:((rdOf ByteArray.empty l0 x5_1).toList != (rdOf ByteArray.empty l1 x5_1).toList)=false:=bne_eq_false_iff_eq.mpr c7
        clear c7
        have H':=Zz.mk H
        clear H
        have p523:0≤(x5_1:Int):=of_decide_eq_true (by first|(with_reducible assumption)|assumption)
        have q523:x5_1<(l0.length:Int):=of_decide_eq_true (by first|(with_reducible assumption)|assumption)
        obtain ⟨ad523,e523,hx523_0⟩:=Kd.at_string HR0.out x5_1 p523 q523
        cases e523
        replace p523:=eq_true p523
        replace q523:=eq_true q523
        have p524:0≤(x5_1:Int):=of_decide_eq_true (by first|(with_reducible assumption)|assumption)
        have q524:x5_1<(l1.length:Int):=of_decide_eq_true (by first|(with_reducible assumption)|assumption)
        obtain ⟨ad524,e524,hx524_0⟩:=Kd.at_string HR1.out x5_1 p524 q524
        cases e524
        replace p524:=eq_true p524
        replace q524:=eq_true q524
        go_wp2
        repeat (go_quiet (fail);try go_wp2)
        go_roundg k1
        case measure=>have:=HK1.out;omega
        case rel=>exact ⟨(wrap64 (x5_1+1)),(by first|rfl|(simp;done)|(simp [*];done)),H',⟨by have:=HK1.out;omega⟩,by repeat (first|exact Drawn0.refl _|apply Drawn0.step)⟩
       ·rw [if_neg c7] at H
        have c7b0:((rdOf ByteArray.empty l0 x5_1).toList == (rdOf ByteArray.empty l1 x5_1).toList)=false:=beq_eq_false_iff_ne.mpr c7
        have c7b1:((rdOf ByteArray.empty l0 x5_1).toList != (rdOf ByteArray.empty l1 x5_1).toList)=true:=bne_iff_ne.mpr c7
        obtain rfl:=Option.some.inj H
        have p523:0≤(x5_1:Int):=of_decide_eq_true (by first|(with_reducible assumption)|assumption)
        have q523:x5_1<(l0.length:Int):=of_decide_eq_true (by first|(with_reducible assumption)|assumption)
        obtain ⟨ad523,e523,hx523_0⟩:=Kd.at_string HR0.out x5_1 p523 q523
        cases e523
        replace p523:=eq_true p523
        replace q523:=eq_true q523
        have p524:0≤(x5_1:Int):=of_decide_eq_true (by first|(with_reducible assumption)|assumption)
        have q524:x5_1<(l1.length:Int):=of_decide_eq_true (by first|(with_reducible assumption)|assumption)
        obtain ⟨ad524,e524,hx524_0⟩:=Kd.at_string HR1.out x5_1 p524 q524
        cases e524
        replace p524:=eq_true p524
        replace q524:=eq_true q524
        go_wp2
        repeat (go_quiet (fail);try go_wp2)
        go_ret
        exact ⟨by first|rfl|(simp;done)|(simp [*];done),by repeat (first|exact Drawn0.refl _|apply Drawn0.step)⟩
      ·rw [if_neg c6] at H
       exact absurd H (by simp)
     ·rw [if_neg c5] at H
      exact absurd H (by simp)
    ·rw [if_neg c4] at H
     have c4b0:decide (x5_1<(l0.length:Int))=false:=decide_eq_false c4
     clear c4
     obtain rfl:=Option.some.inj H
     go_wp2
     repeat (go_quiet (fail);try go_wp2)
     go_ret
     exact ⟨by first|rfl|(simp;done)|(simp [*];done),by repeat (first|exact Drawn0.refl _|apply Drawn0.step)⟩
 ·rw [if_neg c3] at H
  have c3b0:((l0.length:Int) == (l1.length:Int))=false:=beq_eq_false_iff_ne.mpr c3
  have c3b1:((l0.length:Int) != (l1.length:Int))=true:=bne_iff_ne.mpr c3
  have c3b2:(l0.length == l1.length)=false:=by first|simpa using c3|(simp at c3 ⊢;omega)
  obtain rfl:=Option.some.inj H
  go_enter Tryz.func22,Tryz.ntmps22
  go_wp2
  repeat (go_quiet (fail);try go_wp2)
  go_ret
  exact ⟨by first|rfl|(simp;done)|(simp [*];done),by repeat (first|exact Drawn0.refl _|apply Drawn0.step)⟩
def laws_markText.l0:Nat→Int→ByteArray→Option (ByteArray)
 | 0,_,_=>none
 | k+1,x0,x3=>if x0 > 0 then ((some (([(wrap64 (48+(Int.tmod x0 10))) % 256]:List Int):List Int)).bind fun y525=>(if (strOfNums y525).size+x3.size≤9223372036854775807 then (laws_markText.l0 k (wrap64 (Int.tdiv x0 10)) ((strOfNums y525) ++ x3)) else (none))) else (if 1+x3.size≤9223372036854775807 then (some ((⟨#[109]⟩:ByteArray) ++ x3)) else (none))
def laws_markText.f (k:Nat) (a0:Int):Option (ByteArray):=if a0≤0 then (some (⟨#[109,48]⟩:ByteArray)) else (laws_markText.l0 k a0 (⟨#[]⟩:ByteArray))
set_option maxHeartbeats 8000000 in
set_option maxRecDepth 100000 in
theorem laws_markText.calls (k:Nat) (a0:Int) (r:ByteArray) (w:World) (h:laws_markText.f k a0=some r) :
  Calls Tryz.prog 38 #[.int .i64 a0] w fun e w'=>e=.returned (.string r)∧Below w.heap.size w w':=by
 have HB:=Zz.mk (Below.refl w.heap.size w)
 have H:(if a0≤0 then (some (⟨#[109,48]⟩:ByteArray)) else (laws_markText.l0 k a0 (⟨#[]⟩:ByteArray)))=some r:=h
 clear h
 by_cases c2:a0≤0
 ·rw [if_pos c2] at H
  have c2b0:decide (a0≤0)=true:=decide_eq_true c2
  clear c2
  obtain rfl:=Option.some.inj H
  go_enter Tryz.func38,Tryz.ntmps38
  go_wp2
  go_ret
  exact ⟨by first|rfl|(simp [errW_none,errW_some] <;> rfl)|(simp [*,errW_none,errW_some] <;> rfl),by repeat (first|(with_reducible first|exact HB.out|apply qA|apply qN|apply q1_)|exact HB.out)⟩
 ·rw [if_neg c2] at H
  have c2b0:decide (a0≤0)=false:=decide_eq_false c2
  clear c2
  have H':=Zz.mk H
  clear H
  go_enter Tryz.func38,Tryz.ntmps38
  go_wp2
  go_loopg [0,3] k (fun kq v0 v3 w'=>∃ (x0_1:Int) (x3_1:ByteArray),v0=.int .i64 x0_1∧v3=.string x3_1∧Zz (laws_markText.l0 kq x0_1 x3_1=some r)∧Zz (kq≤k)∧Zz (Below w.heap.size w w'))
  case atStart=>exact ⟨(a0),((⟨#[]⟩:ByteArray)),(by first|rfl|(simp;done)|(simp [*];done)),(by first|rfl|(simp;done)|(simp [*];done)),H',⟨Nat.le_refl _⟩,⟨by repeat (first|(with_reducible first|exact HB.out|apply qA|apply qN|apply q1_)|exact HB.out)⟩⟩
  case round =>
   clear H'
   try clear c2
   try clear c2b0
   try clear p2
   obtain ⟨x0_1,x3_1,rfl,rfl,HA,HK1,HB⟩:=hrel
   cases gk with
   | zero=>exact absurd HA.out (by simp [laws_markText.l0])
   | succ k1 =>
    have H:=HA.out
    clear HA
    simp only [laws_markText.l0] at H
    by_cases c3:x0_1 > 0
    ·rw [if_pos c3] at H
     have c3b0:decide (0<x0_1)=true:=decide_eq_true c3
     clear c3
     obtain ⟨y525,hy525⟩:∃ y_:List Int,y_=(([(wrap64 (48+(Int.tmod x0_1 10))) % 256]:List Int)):=⟨_,rfl⟩
     replace H:(if (strOfNums y525).size+x3_1.size≤9223372036854775807 then (laws_markText.l0 k1 (wrap64 (Int.tdiv x0_1 10)) ((strOfNums y525) ++ x3_1)) else (none))=some r:=by first|(rw [hy525];with_reducible exact H)|(have H2_:=(Option.bind_some _ _).symm.trans H;rw [hy525];with_reducible exact H2_)|(have H2_:=(Option.bind_some _ _).symm.trans H;with_reducible exact H2_)|with_reducible exact H|(rw [hy525];exact H)|exact H
     have Ny525:=Zz.mk hy525
     clear hy525
     by_cases c4:(strOfNums y525).size+x3_1.size≤9223372036854775807
     ·rw [if_pos c4] at H
      have c4b0:=eq_true c4
      have c4b1:decide ((strOfNums y525).size+x3_1.size≤9223372036854775807)=true:=decide_eq_true c4
      try have c4b2:(9223372036854775807<(strOfNums y525).size+x3_1.size)=False:=eq_false (Nat.not_lt.2 c4)
      have H':=Zz.mk H
      clear H
      go_wp2_with (first|((with_reducible refine gate_dst (N:=12) rfl ?_);refine Kd.R_lit (Kd.int .u8) _ 5 ?hg (N:=12) ?hd (xs:=([(wrap64 (48+(Int.tmod x0_1 10))) % 256]:List Int)) (inner:=[.int .u8 ((wrap64 (48+(Int.tmod x0_1 10))) % 256)]) (ok:=fun _=>True) (okp:=fun _=>True) ?hr ?hp (fun _ hk=>hk) trivial (Below.refl _ _) (Nat.le_refl _) (by simp) ?_;(case hd=>rfl);(case hg=>rfl);(case hr=>first|(go_simp;done)|(go_simp;rfl));(case hp=>exact (Reps.one (show Kd.M (Kd.int .u8) _ _ _ ((wrap64 (48+(Int.tmod x0_1 10))) % 256) [.int .u8 ((wrap64 (48+(Int.tmod x0_1 10))) % 256)] from rfl) (Reps.none _ _)));intro v526 w5 ho6 hb hg_ hnew_;clear hg_ hnew_;(first|rw [← Ny525.out] at ho6|(simp only [Int.reduceToNat] at ho6;rw [← Ny525.out] at ho6));have n0_:=Zz.mk (Kd.R_lower ho6 (qZ (by repeat (first|(with_reducible first|exact HB.out|apply qA|apply qN|apply q1_)|exact HB.out))));have n1_:=Zz.mk (qP (by repeat (first|(with_reducible first|exact HB.out|apply qA|apply qN|apply q1_)|exact HB.out)) hb);clear HB;have HO527:=n0_;have HB:=n1_;clear n0_ n1_;clear hb ho6;have hcv7:=own_string (P:=Tryz.prog) Tryz.underlying81 Tryz.underlying5 Tryz.underlying9 (Kd.own_of_R HO527.out)))
      go_roundg k1
      case measure=>have:=HK1.out;omega
      case rel=>exact ⟨(wrap64 (Int.tdiv x0_1 10)),((strOfNums y525) ++ x3_1),(by first|rfl|(simp;done)|(simp [*];done)),(by first|rfl|(simp;done)|(simp [*];done)),H',⟨by have:=HK1.out;omega⟩,⟨by repeat (first|(with_reducible first|exact HB.out|apply qA|apply qN|apply q1_)|exact HB.out)⟩⟩
     ·rw [if_neg c4] at H
      exact absurd H (by simp)
    ·rw [if_neg c3] at H
     have c3b0:decide (0<x0_1)=false:=decide_eq_false c3
     clear c3
     by_cases c8:1+x3_1.size≤9223372036854775807
     ·rw [if_pos c8] at H
      have c8b0:=eq_true c8
      have c8b1:decide (1+x3_1.size≤9223372036854775807)=true:=decide_eq_true c8
      try have c8b2:(9223372036854775807<1+x3_1.size)=False:=eq_false (Nat.not_lt.2 c8)
      obtain rfl:=Option.some.inj H
      go_wp2
      go_ret
      exact ⟨by first|rfl|(simp [errW_none,errW_some] <;> rfl)|(simp [*,errW_none,errW_some] <;> rfl),by repeat (first|(with_reducible first|exact HB.out|apply qA|apply qN|apply q1_)|exact HB.out)⟩
     ·rw [if_neg c8] at H
      exact absurd H (by simp)
def laws_markStringS.l0:Nat→List ByteArray→Int→Int→Option (Int × List ByteArray)
 | 0,_,_,_=>none
 | k+1,x0,x1,x5=>if x5<(x0.length:Int) then ((laws_markText.f k x1).bind fun t528=>(if 0≤x5 then (laws_markStringS.l0 k (x0.set (x5:Int).toNat t528) (wrap64 (x1+1)) (wrap64 (x5+1))) else (none))) else (some (x1,x0))
def laws_markStringS.f (k:Nat) (l0:List ByteArray) (a1:Int):Option (Int × List ByteArray):=laws_markStringS.l0 k l0 a1 0
set_option maxHeartbeats 8000000 in
set_option maxRecDepth 100000 in
theorem laws_markStringS.calls (k:Nat) (P0_:Nat→Prop) (u9000_:Value) (l0:List ByteArray) (a1:Int) (r1:Int) (r2:List ByteArray) (w0 w:World) (hB:Below w0.heap.size w0 w) (ho0:Kd.R Kd.string 9 w w0.heap.size P0_ u9000_ l0) (h:laws_markStringS.f k l0 a1=some (r1,r2)) :
  Calls Tryz.prog 23 #[u9000_,.int .i64 a1] w fun e w'=>e=.returned (.int .i64 r1)∧Kd.R Kd.string 9 w' w0.heap.size (fun k_=>(P0_ k_∨w.heap.size≤k_)) u9000_ r2∧Below w0.heap.size w0 w'∧Kept w w' (fun k_=>P0_ k_):=by
 have HO0:=Zz.mk (show Kd.R Kd.string 9 w w0.heap.size (fun k_=>(P0_ k_∨w.heap.size≤k_)) u9000_ l0 from Kd.R_mono ho0 (fun k_ hk=>(.inl hk)))
 have HK:=Zz.mk (Kept.refl w (fun k_=>P0_ k_))
 have HW0:=Zz.mk hB.size
 have HB:=Zz.mk hB
 clear hB
 have H:(laws_markStringS.l0 k l0 a1 0)=some (r1,r2):=h
 clear h
 have H':=Zz.mk H
 clear H
 go_enter Tryz.func23,Tryz.ntmps23
 go_wp2
 go_loopg [1,5] k (fun kq v1 v5 w'=>∃ (x0_1:List ByteArray) (x1_1:Int) (x5_1:Int),v1=.int .i64 x1_1∧v5=.int .i64 x5_1∧Zz (laws_markStringS.l0 kq x0_1 x1_1 x5_1=some (r1,r2))∧Zz (kq≤k)∧Zz (Kd.R Kd.string 9 w' w0.heap.size (fun k_=>(P0_ k_∨w.heap.size≤k_)) u9000_ x0_1)∧Zz (Kept w w' (fun k_=>P0_ k_))∧Zz (Below w0.heap.size w0 w'))
 case atStart=>exact ⟨(l0),(a1),(0),(by first|rfl|(simp;done)|(simp [*];done)),(by first|rfl|(simp;done)|(simp [*];done)),H',⟨Nat.le_refl _⟩,⟨by (with_reducible repeat first|apply Kd.R_alloc|apply Kd.R_drewN|apply Kd.R_drew);exact HO0.out⟩,⟨by repeat (first|(with_reducible first|exact HK.out|apply Kept.alloc|apply Kept.drewN|apply Kept.drew)|exact HK.out)⟩,⟨by repeat (first|(with_reducible first|exact HB.out|apply qA|apply qN|apply q1_)|exact HB.out)⟩⟩
 case round =>
  clear H'
  try clear c2
  try clear p2
  obtain ⟨x0_1,x1_1,x5_1,rfl,rfl,HA,HK1,HO_0,HK,HB⟩:=hrel
  cases gk with
  | zero=>exact absurd HA.out (by simp [laws_markStringS.l0])
  | succ k1 =>
   have H:=HA.out
   clear HA
   simp only [laws_markStringS.l0] at H
   by_cases c3:x5_1<(x0_1.length:Int)
   ·rw [if_pos c3] at H
    have c3b0:decide (x5_1<(x0_1.length:Int))=true:=decide_eq_true c3
    clear c3
    replace H:=Option.bind_eq_some_iff.mp H
    obtain ⟨t528,A40,H⟩:=H
    replace H:(if 0≤x5_1 then (laws_markStringS.l0 k1 (x0_1.set (x5_1:Int).toNat t528) (wrap64 (x1_1+1)) (wrap64 (x5_1+1))) else (none))=some (r1,r2):=H
    have A4:=Zz.mk A40
    clear A40
    by_cases c5:0≤x5_1
    ·rw [if_pos c5] at H
     have c5b0:decide (0≤x5_1)=true:=decide_eq_true c5
     clear c5
     obtain ⟨y529,hy529⟩:∃ y_:List ByteArray,y_=(x0_1.set (x5_1:Int).toNat t528):=⟨_,rfl⟩
     replace H:(laws_markStringS.l0 k1 y529 (wrap64 (x1_1+1)) (wrap64 (x5_1+1)))=some (r1,r2):=by first|(rw [hy529];with_reducible exact H)|(have H2_:=(Option.bind_some _ _).symm.trans H;rw [hy529];with_reducible exact H2_)|(have H2_:=(Option.bind_some _ _).symm.trans H;with_reducible exact H2_)|with_reducible exact H|(rw [hy529];exact H)|exact H
     have Ny529:=Zz.mk hy529
     clear hy529
     have H':=Zz.mk H
     clear H
     obtain ⟨Ao7,co7,eo7⟩:=Kd.R_slice HO_0.out
     subst eo7
     go_wp2_with (first|((with_reducible refine gate_callee (f:=38) rfl ?_);refine goesL_ (some 15) rfl rfl Tryz.func38 (by kernel_rfl) rfl #[.int .i64 x1_1] rfl (by (try simp only [List.map_toArray,List.map_cons,List.map_nil]);first|done|rfl|(simp only [List.length_drop,List.length_take];rfl)) ?_;(with_reducible refine (laws_markText.calls k1 x1_1 t528 _ A4.out).mono ?_);rintro e w8 ⟨rfl,hb⟩;refine ⟨_,rfl,?_⟩;have n0_:=Zz.mk (Kd.R_below (by (with_reducible repeat first|apply Kd.R_alloc|apply Kd.R_drewN|apply Kd.R_drew);exact HO_0.out) hb);have n1_:=Zz.mk (Kept.below (S:=(fun k_=>P0_ k_)) (by repeat (first|(with_reducible first|exact HK.out|apply Kept.alloc|apply Kept.drewN|apply Kept.drew)|exact HK.out)) hb);have n2_:=Zz.mk (qP (by repeat (first|(with_reducible first|exact HB.out|apply qA|apply qN|apply q1_)|exact HB.out)) hb);clear HO_0;clear HK;clear HB;have HO_0:=n0_;have HK:=n1_;have HB:=n2_;clear n0_ n1_ n2_;(try clear hb);(try clear hb2);(try clear hk);(try clear hi);have p6:0≤(x5_1:Int):=of_decide_eq_true (by first|(with_reducible assumption)|assumption);have q6:(x5_1:Int)<((x0_1.length:Int):Int):=of_decide_eq_true (by first|(with_reducible assumption)|assumption);obtain ⟨go6,co6,eo6,gb6,gl6,cl6,HG6⟩:=Kd.R_form HO_0.out (by omega);(first|cases eo6|(injection eo6 with ea_ en_ ec_;(first|subst ea_|(injection ea_ with ea_;subst ea_));subst ec_;clear en_));have GB6:=Zz.mk gb6;have GG6:=Zz.mk HG6;clear gb6 gl6 HG6;have HMgo6:=Zz.mk (show (P0_ go6∨w.heap.size≤go6) from (HO_0.out.1 _ rfl));obtain ⟨hx6_0,hf6_0⟩:=Kd.R_celln (⟨#[]⟩:ByteArray) HO_0.out (x5_1:Int) p6 q6;(try simp only [Int.toNat_natCast] at hx6_0 hf6_0);replace p6:=eq_true p6;replace q6:=eq_true q6;obtain ⟨hy9_,hz9_⟩:=Kd.R_celln (⟨#[]⟩:ByteArray) HO_0.out (x5_1:Int) (of_decide_eq_true (by first|(with_reducible assumption)|assumption)) (of_decide_eq_true (by first|(with_reducible assumption)|assumption));(try simp only [Int.toNat_natCast] at hy9_ hz9_);have HP9:=Kd.R_putg HO_0.out (x5_1:Int) t528)|((with_reducible refine gate_store (t:=9) (p:=16) rfl ?_);refine store_event (t:=9) (p:=16) (v:=?vo_w10) (w1:=(w8.setCell ⟨go6,(x5_1:Int).toNat,none⟩ (.string t528))) ?hg ?ho ?hn ?hr ?_;(case ho=>rfl);(case hg=>rfl);(case hn=>rfl);(case hr=>first|(go_simp;done)|(go_simp;rfl));intro w10 hw;have hg:w8.grownBy w10 (some go6):=(by rw [hw];exact HP9.2);have hp_:Kd.R Kd.string 9 w10 w0.heap.size (fun k_=>(P0_ k_∨w.heap.size≤k_)) (.slice (some ⟨go6,0,none⟩) x0_1.length co7) y529:=(by rw [hw,Ny529.out];exact HP9.1);clear HP9;have n0_:=Zz.mk (hp_);have n1_:=Zz.mk ((by rw [hw];exact qS (HB.out) GB6.out:Below w0.heap.size w0 w10));have n2_:=Zz.mk (Kept.of_grown (S:=(fun k_=>P0_ k_)) hg (by repeat (first|(with_reducible first|exact HK.out|apply Kept.alloc|apply Kept.drewN|apply Kept.drew)|exact HK.out)) (fun k_ e_=>(HO_0.out.1 k_ e_)));clear HO_0;clear HB;clear HK;have HO_0:=n0_;have HB:=n1_;have HK:=n2_;clear n0_ n1_ n2_;clear hg hw hp_))
     go_roundg k1
     case measure=>have:=HK1.out;omega
     case rel=>exact ⟨(y529),(wrap64 (x1_1+1)),(wrap64 (x5_1+1)),(by first|rfl|(simp;done)|(simp [*];done)),(by first|rfl|(simp;done)|(simp [*];done)),H',⟨by have:=HK1.out;omega⟩,⟨by (with_reducible repeat first|apply Kd.R_alloc|apply Kd.R_drewN|apply Kd.R_drew);exact HO_0.out⟩,⟨by repeat (first|(with_reducible first|exact HK.out|apply Kept.alloc|apply Kept.drewN|apply Kept.drew)|exact HK.out)⟩,⟨by repeat (first|(with_reducible first|exact HB.out|apply qA|apply qN|apply q1_)|exact HB.out)⟩⟩
    ·rw [if_neg c5] at H
     exact absurd H (by simp)
   ·rw [if_neg c3] at H
    have c3b0:decide (x5_1<(x0_1.length:Int))=false:=decide_eq_false c3
    clear c3
    simp only [Option.some.injEq,Prod.mk.injEq] at H
    obtain ⟨rfl,rfl⟩:=H
    obtain ⟨Ao11,co11,eo11⟩:=Kd.R_slice HO_0.out
    subst eo11
    go_wp2
    go_ret
    exact ⟨by first|rfl|(simp [errW_none,errW_some] <;> rfl)|(simp [*,errW_none,errW_some] <;> rfl),by (with_reducible repeat first|apply Kd.R_alloc|apply Kd.R_drewN|apply Kd.R_drew);exact HO_0.out,by repeat (first|(with_reducible first|exact HB.out|apply qA|apply qN|apply q1_)|exact HB.out),by repeat (first|(with_reducible first|exact HK.out|apply Kept.alloc|apply Kept.drewN|apply Kept.drew)|exact HK.out)⟩
def laws_heldStringS.l0:Nat→List ByteArray→Int→Int→Option (Int)
 | 0,_,_,_=>none
 | k+1,x0,x1,x5=>if x5<(x0.length:Int) then (if 0≤x5 then ((laws_markText.f k x1).bind fun t531=>(if (rdOf ByteArray.empty x0 x5).toList=t531.toList then (laws_heldStringS.l0 k x0 (wrap64 (x1+1)) (wrap64 (x5+1))) else (some (-1)))) else (none)) else (some x1)
def laws_heldStringS.f (k:Nat) (l0:List ByteArray) (a1:Int):Option (Int):=laws_heldStringS.l0 k l0 a1 0
set_option maxHeartbeats 8000000 in
set_option maxRecDepth 100000 in
theorem laws_heldStringS.calls (k:Nat) (A0:Option Addr) (c0:Nat) (l0:List ByteArray) (a1:Int) (r:Int) (w:World) (hr0:Kd.C Kd.string w A0 l0.length l0) (hc0:l0.length≤c0) (h:laws_heldStringS.f k l0 a1=some r) :
  Calls Tryz.prog 24 #[.slice A0 l0.length c0,.int .i64 a1] w fun e w'=>e=.returned (.int .i64 r)∧Below w.heap.size w w':=by
 have HR0:=Zz.mk hr0
 have HC0:=Zz.mk hc0
 clear hr0 hc0
 have HB:=Zz.mk (Below.refl w.heap.size w)
 have H:(laws_heldStringS.l0 k l0 a1 0)=some r:=h
 clear h
 have H':=Zz.mk H
 clear H
 go_enter Tryz.func24,Tryz.ntmps24
 go_wp2
 go_loopg [1,5] k (fun kq v1 v5 w'=>∃ (x1_1:Int) (x5_1:Int),v1=.int .i64 x1_1∧v5=.int .i64 x5_1∧Zz (laws_heldStringS.l0 kq l0 x1_1 x5_1=some r)∧Zz (kq≤k)∧Zz (Below w.heap.size w w'))
 case atStart=>exact ⟨(a1),(0),(by first|rfl|(simp;done)|(simp [*];done)),(by first|rfl|(simp;done)|(simp [*];done)),H',⟨Nat.le_refl _⟩,⟨by repeat (first|(with_reducible first|exact HB.out|apply qA|apply qN|apply q1_)|exact HB.out)⟩⟩
 case round =>
  clear H'
  try clear c2
  try clear p2
  obtain ⟨x1_1,x5_1,rfl,rfl,HA,HK1,HB⟩:=hrel
  cases gk with
  | zero=>exact absurd HA.out (by simp [laws_heldStringS.l0])
  | succ k1 =>
   have H:=HA.out
   clear HA
   simp only [laws_heldStringS.l0] at H
   by_cases c3:x5_1<(l0.length:Int)
   ·rw [if_pos c3] at H
    have c3b0:decide (x5_1<(l0.length:Int))=true:=decide_eq_true c3
    clear c3
    by_cases c4:0≤x5_1
    ·rw [if_pos c4] at H
     have c4b0:decide (0≤x5_1)=true:=decide_eq_true c4
     clear c4
     replace H:=Option.bind_eq_some_iff.mp H
     obtain ⟨t531,A50,H⟩:=H
     replace H:(if (rdOf ByteArray.empty l0 x5_1).toList=t531.toList then (laws_heldStringS.l0 k1 l0 (wrap64 (x1_1+1)) (wrap64 (x5_1+1))) else (some (-1)))=some r:=H
     have A5:=Zz.mk A50
     clear A50
     by_cases c6:(rdOf ByteArray.empty l0 x5_1).toList=t531.toList
     ·rw [if_pos c6] at H
      have c6b0:((rdOf ByteArray.empty l0 x5_1).toList == t531.toList)=true:=beq_iff_eq.mpr c6
      have c6b1:((rdOf ByteArray.empty l0 x5_1).toList != t531.toList)=false:=bne_eq_false_iff_eq.mpr c6
      clear c6
      have H':=Zz.mk H
      clear H
      try go_wp2
      have n0_:=Zz.mk (q1_ HB.out)
      revert n0_
      clear HB
      intro HB
      have p530:0≤(x5_1:Int):=of_decide_eq_true (by first|(with_reducible assumption)|assumption)
      have q530:x5_1<(l0.length:Int):=of_decide_eq_true (by first|(with_reducible assumption)|assumption)
      obtain ⟨ad530,e530,hx530_0⟩:=Kd.at_string HR0.out x5_1 p530 q530
      have hw530_0:=hx530_0
      cases e530
      replace hx530_0:=(HB.out.cell (World.block_lt_of_cell? w _ hx530_0)).trans hx530_0
      replace p530:=eq_true p530
      replace q530:=eq_true q530
      refine start_ (n:=7) (S:=fun w'=>w'.cell? (ad530.add (x5_1).toNat)=some (.string (rdOf ByteArray.empty l0 x5_1))) (ds:=[]) #[false,false,false,false,false,false,false] (by kernel_rfl) rfl rfl (((HB.out.cell (World.block_lt_of_cell? w _ hw530_0)).trans hw530_0)) (fun hHeld=>?_)
      generalize wr.drew=w7 at HB hx530_0 hHeld ⊢
      refine pure_ (i:=0) (N:=some 12) (v:=?_) (a':=?_) #[true,false,false,false,false,false,false] rfl rfl (by kernel_rfl) (fun _ _ _ h=>h) (Or.inl ⟨by rfl,?_⟩) ?_ ?_
      rotate_left
      ·intro w'
       go_simp
       with_reducible rfl
      rotate_left
      ·simp only [Act.put,List.setIfInBounds_toArray,List.set_cons_zero,List.set_cons_succ,i64_w,i32_w]
       rfl
      refine pure_ (i:=1) (N:=some 13) (v:=?_) (a':=?_) #[true,true,false,false,false,false,false] rfl rfl (by kernel_rfl) (fun _ _ _ h=>h) (Or.inl ⟨by rfl,?_⟩) ?_ ?_
      rotate_left
      ·intro w'
       go_simp
       with_reducible rfl
      rotate_left
      ·simp only [Act.put,List.setIfInBounds_toArray,List.set_cons_zero,List.set_cons_succ,i64_w,i32_w]
       rfl
      refine pure_ (i:=2) (N:=some 14) (v:=?_) (a':=?_) #[true,true,true,false,false,false,false] rfl rfl (by kernel_rfl) (fun _ _ _ h=>h) (Or.inl ⟨by rfl,?_⟩) ?_ ?_
      rotate_left
      ·intro w'
       go_simp
       with_reducible rfl
      rotate_left
      ·simp only [Act.put,List.setIfInBounds_toArray,List.set_cons_zero,List.set_cons_succ,i64_w,i32_w]
       rfl
      refine pure_ (i:=4) (N:=some 16) (v:=?_) (a':=?_) #[true,true,true,false,true,false,false] rfl rfl (by kernel_rfl) (fun _ _ _ h=>h) (Or.inl ⟨by rfl,?_⟩) ?_ ?_
      rotate_left
      ·intro w'
       go_simp
       with_reducible rfl
      rotate_left
      ·simp only [Act.put,List.setIfInBounds_toArray,List.set_cons_zero,List.set_cons_succ,i64_w,i32_w]
       rfl
      refine take_ (i:=3) (N:=some 15) (v:=?_) (a':=?_) #[true,true,true,true,true,false,false] rfl rfl (by kernel_rfl) (fun _ _ _ h=>h) (Or.inl ⟨by rfl,?_⟩) hHeld ?_ ?_
      rotate_left
      ·intro w' s0
       go_simp
       with_reducible rfl
      rotate_left
      ·simp only [Act.put,List.setIfInBounds_toArray,List.set_cons_zero,List.set_cons_succ,i64_w,i32_w]
       rfl
      refine one_ (i:=5) (N:=some 17) #[true,true,true,true,true,true,false] rfl rfl (by kernel_rfl) (by decide) (fun K hK=>?_)
      refine goes_ Tryz.func38 (by kernel_rfl) rfl #[.int .i64 x1_1] (by rfl) rfl rfl (by (try simp only [List.map_toArray,List.map_cons,List.map_nil]);first|done|rfl|(simp only [List.length_drop,List.length_take];rfl)) ?_
      with_reducible refine (laws_markText.calls k1 x1_1 t531 _ A5.out).mono ?_
      rintro e w8 ⟨rfl,hb⟩
      refine ⟨_,rfl,?_⟩
      have n0_:=Zz.mk (qP HB.out hb)
      revert n0_
      clear HB
      intro HB
      (try clear hb)
      (try clear hb2)
      (try clear hk)
      (try clear hi)
      refine hK.out _ _ (((HB.out.cell (World.block_lt_of_cell? w _ hw530_0)).trans hw530_0)) (fun hHeld=>?_)
      clear hK K
      refine norm_ (a':=?_) ?_ ?_
      rotate_left
      ·show Act.put _ (some 17) _=_
       simp only [Act.put,List.setIfInBounds_toArray,List.set_cons_zero,List.set_cons_succ,i64_w,i32_w]
       rfl
      refine pure_ (i:=6) (N:=some 18) (v:=?_) (a':=?_) #[true,true,true,true,true,true,true] rfl rfl (by kernel_rfl) (fun _ _ _ h=>h) (Or.inl ⟨by rfl,?_⟩) ?_ ?_
      rotate_left
      ·intro w'
       go_simp
       with_reducible rfl
      rotate_left
      ·simp only [Act.put,List.setIfInBounds_toArray,List.set_cons_zero,List.set_cons_succ,i64_w,i32_w]
       rfl
      refine done_ (by kernel_rfl) ?_
      try go_wp2
      go_roundg k1
      case measure=>have:=HK1.out;omega
      case rel=>exact ⟨(wrap64 (x1_1+1)),(wrap64 (x5_1+1)),(by first|rfl|(simp;done)|(simp [*];done)),(by first|rfl|(simp;done)|(simp [*];done)),H',⟨by have:=HK1.out;omega⟩,⟨by repeat (first|(with_reducible first|exact HB.out|apply qA|apply qN|apply q1_)|exact HB.out)⟩⟩
     ·rw [if_neg c6] at H
      have c6b0:((rdOf ByteArray.empty l0 x5_1).toList == t531.toList)=false:=beq_eq_false_iff_ne.mpr c6
      have c6b1:((rdOf ByteArray.empty l0 x5_1).toList != t531.toList)=true:=bne_iff_ne.mpr c6
      obtain rfl:=Option.some.inj H
      try go_wp2
      have n0_:=Zz.mk (q1_ HB.out)
      revert n0_
      clear HB
      intro HB
      have p530:0≤(x5_1:Int):=of_decide_eq_true (by first|(with_reducible assumption)|assumption)
      have q530:x5_1<(l0.length:Int):=of_decide_eq_true (by first|(with_reducible assumption)|assumption)
      obtain ⟨ad530,e530,hx530_0⟩:=Kd.at_string HR0.out x5_1 p530 q530
      have hw530_0:=hx530_0
      cases e530
      replace hx530_0:=(HB.out.cell (World.block_lt_of_cell? w _ hx530_0)).trans hx530_0
      replace p530:=eq_true p530
      replace q530:=eq_true q530
      refine start_ (n:=7) (S:=fun w'=>w'.cell? (ad530.add (x5_1).toNat)=some (.string (rdOf ByteArray.empty l0 x5_1))) (ds:=[]) #[false,false,false,false,false,false,false] (by kernel_rfl) rfl rfl (((HB.out.cell (World.block_lt_of_cell? w _ hw530_0)).trans hw530_0)) (fun hHeld=>?_)
      generalize wr.drew=w9 at HB hx530_0 hHeld ⊢
      refine pure_ (i:=0) (N:=some 12) (v:=?_) (a':=?_) #[true,false,false,false,false,false,false] rfl rfl (by kernel_rfl) (fun _ _ _ h=>h) (Or.inl ⟨by rfl,?_⟩) ?_ ?_
      rotate_left
      ·intro w'
       go_simp
       with_reducible rfl
      rotate_left
      ·simp only [Act.put,List.setIfInBounds_toArray,List.set_cons_zero,List.set_cons_succ,i64_w,i32_w]
       rfl
      refine pure_ (i:=1) (N:=some 13) (v:=?_) (a':=?_) #[true,true,false,false,false,false,false] rfl rfl (by kernel_rfl) (fun _ _ _ h=>h) (Or.inl ⟨by rfl,?_⟩) ?_ ?_
      rotate_left
      ·intro w'
       go_simp
       with_reducible rfl
      rotate_left
      ·simp only [Act.put,List.setIfInBounds_toArray,List.set_cons_zero,List.set_cons_succ,i64_w,i32_w]
       rfl
      refine pure_ (i:=2) (N:=some 14) (v:=?_) (a':=?_) #[true,true,true,false,false,false,false] rfl rfl (by kernel_rfl) (fun _ _ _ h=>h) (Or.inl ⟨by rfl,?_⟩) ?_ ?_
      rotate_left
      ·intro w'
       go_simp
       with_reducible rfl
      rotate_left
      ·simp only [Act.put,List.setIfInBounds_toArray,List.set_cons_zero,List.set_cons_succ,i64_w,i32_w]
       rfl
      refine pure_ (i:=4) (N:=some 16) (v:=?_) (a':=?_) #[true,true,true,false,true,false,false] rfl rfl (by kernel_rfl) (fun _ _ _ h=>h) (Or.inl ⟨by rfl,?_⟩) ?_ ?_
      rotate_left
      ·intro w'
       go_simp
       with_reducible rfl
      rotate_left
      ·simp only [Act.put,List.setIfInBounds_toArray,List.set_cons_zero,List.set_cons_succ,i64_w,i32_w]
       rfl
      refine take_ (i:=3) (N:=some 15) (v:=?_) (a':=?_) #[true,true,true,true,true,false,false] rfl rfl (by kernel_rfl) (fun _ _ _ h=>h) (Or.inl ⟨by rfl,?_⟩) hHeld ?_ ?_
      rotate_left
      ·intro w' s0
       go_simp
       with_reducible rfl
      rotate_left
      ·simp only [Act.put,List.setIfInBounds_toArray,List.set_cons_zero,List.set_cons_succ,i64_w,i32_w]
       rfl
      refine one_ (i:=5) (N:=some 17) #[true,true,true,true,true,true,false] rfl rfl (by kernel_rfl) (by decide) (fun K hK=>?_)
      refine goes_ Tryz.func38 (by kernel_rfl) rfl #[.int .i64 x1_1] (by rfl) rfl rfl (by (try simp only [List.map_toArray,List.map_cons,List.map_nil]);first|done|rfl|(simp only [List.length_drop,List.length_take];rfl)) ?_
      with_reducible refine (laws_markText.calls k1 x1_1 t531 _ A5.out).mono ?_
      rintro e w10 ⟨rfl,hb⟩
      refine ⟨_,rfl,?_⟩
      have n0_:=Zz.mk (qP HB.out hb)
      revert n0_
      clear HB
      intro HB
      (try clear hb)
      (try clear hb2)
      (try clear hk)
      (try clear hi)
      refine hK.out _ _ (((HB.out.cell (World.block_lt_of_cell? w _ hw530_0)).trans hw530_0)) (fun hHeld=>?_)
      clear hK K
      refine norm_ (a':=?_) ?_ ?_
      rotate_left
      ·show Act.put _ (some 17) _=_
       simp only [Act.put,List.setIfInBounds_toArray,List.set_cons_zero,List.set_cons_succ,i64_w,i32_w]
       rfl
      refine pure_ (i:=6) (N:=some 18) (v:=?_) (a':=?_) #[true,true,true,true,true,true,true] rfl rfl (by kernel_rfl) (fun _ _ _ h=>h) (Or.inl ⟨by rfl,?_⟩) ?_ ?_
      rotate_left
      ·intro w'
       go_simp
       with_reducible rfl
      rotate_left
      ·simp only [Act.put,List.setIfInBounds_toArray,List.set_cons_zero,List.set_cons_succ,i64_w,i32_w]
       rfl
      refine done_ (by kernel_rfl) ?_
      try go_wp2
      go_ret
      exact ⟨by first|rfl|(simp [errW_none,errW_some] <;> rfl)|(simp [*,errW_none,errW_some] <;> rfl),by repeat (first|(with_reducible first|exact HB.out|apply qA|apply qN|apply q1_)|exact HB.out)⟩
    ·rw [if_neg c4] at H
     exact absurd H (by simp)
   ·rw [if_neg c3] at H
    have c3b0:decide (x5_1<(l0.length:Int))=false:=decide_eq_false c3
    clear c3
    obtain rfl:=Option.some.inj H
    go_wp2
    go_ret
    exact ⟨by first|rfl|(simp [errW_none,errW_some] <;> rfl)|(simp [*,errW_none,errW_some] <;> rfl),by repeat (first|(with_reducible first|exact HB.out|apply qA|apply qN|apply q1_)|exact HB.out)⟩
end Go.Proofs.YtadpmgdmiaoniaaGreatDoor.Q
namespace Go.Proofs.YtadpmgdmiaoniaaGreatDoor.Q
open Go.RowKit Go.Proofs.YtadpmgdmiaoniaaGreatDoorW.PrintWords Go.Proofs.YtadpmgdmiaoniaaGreatDoorW.PrintLast
def Ev {α:Type} (F:Nat→Option α) (r:α):Prop:=∃ K,∀ k,K≤k→F k=some r
theorem Ev.pure {α:Type} (r:α):Ev (fun _=>some r) r:=⟨0,fun _ _=>rfl⟩
theorem Ev.const {α:Type} {x:Option α} {r:α} (h:x=some r):Ev (fun _=>x) r:=⟨0,fun _ _=>h⟩
theorem Ev.succ {α:Type} {F:Nat→Option α} {r:α} (h:Ev (fun k=>F (k+1)) r):Ev F r:=by
  obtain ⟨K,h⟩:=h
  refine ⟨K+1,fun k hk=>?_⟩
  obtain ⟨j,rfl⟩:∃ j,k=j+1:=⟨k - 1,by omega⟩
  exact h j (by omega)
theorem Ev.bind {α β:Type} {F:Nat→Option α} {G:Nat→α→Option β} {t:α} {r:β} (h:Ev F t) (h2:Ev (fun k=>G k t) r):Ev (fun k=>(F k).bind (G k)) r:=by
  obtain ⟨K,h⟩:=h
  obtain ⟨K2,h2⟩:=h2
  refine ⟨max K K2,fun k hk=>?_⟩
  simp only [h k (by omega),Option.bind_some]
  exact h2 k (by omega)
theorem Ev.bindc {α β:Type} {x:Option α} {G:Nat→α→Option β} {t:α} {r:β} (h:x=some t) (h2:Ev (fun k=>G k t) r):Ev (fun k=>x.bind (G k)) r:=Ev.bind (Ev.const h) h2
theorem Ev.pos {α:Type} {c:Prop} [Decidable c] {F G:Nat→Option α} {r:α} (hc:c) (h:Ev F r):Ev (fun k=>if c then F k else G k) r:=by simpa only [if_pos hc] using h
theorem Ev.neg {α:Type} {c:Prop} [Decidable c] {F G:Nat→Option α} {r:α} (hc:¬ c) (h:Ev G r):Ev (fun k=>if c then F k else G k) r:=by simpa only [if_neg hc] using h
theorem Ev.eq {α:Type} {F G:Nat→Option α} {r:α} (h:Ev F r) (e:∀ k,G k=F k):Ev G r:=by obtain ⟨K,h⟩:=h;exact ⟨K,fun k hk=>(e k).trans (h k hk)⟩
theorem Ev.ex {α:Type} {F:Nat→Option α} {r:α} (h:Ev F r):∃ k,F k=some r:=by obtain ⟨K,h⟩:=h;exact ⟨K,h K (Nat.le_refl _)⟩
theorem wnext (i:Nat) (h:i≤4611686018427387904):wrap64 ((i:Int)+1)=((i+1:Nat):Int):=by unfold wrap64;omega
end Go.Proofs.YtadpmgdmiaoniaaGreatDoor.Q
namespace Go.Proofs.YtadpmgdmiaoniaaGreatDoor.Q
open Go.RowKit Go.Proofs.YtadpmgdmiaoniaaGreatDoorW.PrintWords Go.Proofs.YtadpmgdmiaoniaaGreatDoorW.PrintLast
abbrev LN:=S75
abbrev IN:=S70
instance:DecidableEq IN:=fun a b=>decidable_of_iff (a.f0=b.f0∧a.f1=b.f1∧a.f2=b.f2) ⟨fun h=>by
  obtain ⟨a0,a1,a2⟩:=a
  obtain ⟨b0,b1,b2⟩:=b
  obtain ⟨rfl,rfl,rfl⟩:=h
  rfl,fun h=>by subst h;exact ⟨rfl,rfl,rfl⟩⟩
def cv (l:List LN):List IN:=l.map fun x=>⟨x.f0,x.f1,x.f2⟩
theorem cv_length (l:List LN):(cv l).length=l.length:=List.length_map _
theorem toNodeS_l0 (l:List LN) (hl:l.length≤1048576):∀ (n i:Nat),i+n=l.length→Ev (fun k=>laws_toNodeS.l0 k l ((cv l).take i ++ List.replicate n z70) (i:Int)) (cv l):=by
  intro n
  induction n with
  | zero =>
    intro i h
    refine Ev.succ ?_
    simp only [laws_toNodeS.l0]
    refine Ev.neg (by omega) ?_
    rw [List.take_of_length_le (by rw [cv_length];omega),List.replicate_zero,List.append_nil]
    exact Ev.pure _
  | succ n ih =>
    intro i h
    refine Ev.succ ?_
    simp only [laws_toNodeS.l0]
    have hlen:((cv l).take i ++ List.replicate (n+1) z70).length=l.length:=by simp [cv_length];omega
    refine Ev.pos (by omega) (Ev.pos (by omega) (Ev.bindc rfl (Ev.pos (by rw [hlen];omega) ?_)))
    refine (ih (i+1) (by omega)).eq fun k=>?_
    rw [wnext i (by omega)]
    congr 1
    have hi:i<l.length:=by omega
    have e1:(cv l).take (i+1)=(cv l).take i ++ [⟨l[i].f0,l[i].f1,l[i].f2⟩]:=by
      rw [List.take_succ_eq_append_getElem (by rw [cv_length];omega)]
      simp [cv]
    rw [e1,Int.toNat_natCast,List.set_append_right _ _ (by simp;omega)]
    have e2:i - ((cv l).take i).length=0:=by simp [cv_length];omega
    rw [e2,List.replicate_succ,List.set_cons_zero]
    simp [rd_T75,hi]
theorem toTrie_ev (l:List LN) (hl:l.length≤1048576):Ev (fun k=>laws_toTrie.f k l) (cv l):=by
  unfold laws_toTrie.f laws_toNodeS.f
  refine Ev.bind (t:=cv l) ?_ (Ev.pure _)
  refine Ev.pos (by omega) (Ev.pos (by omega) ?_)
  have:=toNodeS_l0 l hl l.length 0 (by omega)
  simpa using this
theorem szTrie_eq (l:List LN) (hl:l.length≤9223372036854775807):laws_szTrie.f l 1048576=some (if l.length≤1048576 then (1048576 - l.length:Int) else -1):=by
  unfold laws_szTrie.f laws_szNodeS.f
  have e:wrap64 (1048576 - (l.length:Int))=1048576 - (l.length:Int):=by unfold wrap64;omega
  rw [e]
  by_cases h:l.length≤1048576
  · rw [if_neg (show ¬ ((1048576:Int) - l.length<0) by omega),Option.bind_some,if_neg (show ¬ ((1048576:Int) - l.length<0) by omega),if_pos h]
  · rw [if_pos (show ((1048576:Int) - l.length<0) by omega),Option.bind_some,if_pos (by decide),if_neg h]
theorem eqNode_eq (a b:IN):laws_eqNode.f a.f0 a.f1 a.f2 b.f0 b.f1 b.f2=some (decide (a=b)):=by
  obtain ⟨a0,a1,a2⟩:=a
  obtain ⟨b0,b1,b2⟩:=b
  unfold laws_eqNode.f
  by_cases h0:a0=b0
  · by_cases h1:a1=b1
    · cases a2 <;> cases b2 <;> simp [h0,h1]
    · simp [h0,h1]
  · simp [h0]
theorem rd_nat' (l:List IN) (i:Nat) (h:i<l.length):rd_T70 l (i:Int)=l[i]:=by simp [rd_T70,h]
theorem eqNodeS_l0 (a b:List IN) (hab:a.length=b.length) (hl:a.length≤1048576):∀ (n i:Nat),i+n=a.length→Ev (fun k=>laws_eqNodeS.l0 k a b (i:Int)) (decide (a.drop i=b.drop i)):=by
  intro n
  induction n with
  | zero =>
    intro i h
    refine Ev.succ ?_
    simp only [laws_eqNodeS.l0]
    refine Ev.neg (by omega) ?_
    rw [List.drop_of_length_le (by omega),List.drop_of_length_le (by omega)]
    exact Ev.pure _
  | succ n ih =>
    intro i h
    refine Ev.succ ?_
    simp only [laws_eqNodeS.l0]
    have hi:i<a.length:=by omega
    have hi2:i<b.length:=by omega
    refine Ev.pos (by omega) (Ev.pos (by omega) (Ev.pos (by omega) ?_))
    simp only [eqNode_eq,Option.bind_some,rd_nat' a i hi,rd_nat' b i hi2]
    have hd:(a.drop i=b.drop i) ↔ (a[i]=b[i]∧a.drop (i+1)=b.drop (i+1)):=by
      rw [List.drop_eq_getElem_cons hi,List.drop_eq_getElem_cons hi2]
      exact List.cons_eq_cons
    rw [decide_eq_decide.2 hd]
    by_cases e:a[i]=b[i]
    · refine Ev.pos (by simp [e]) ?_
      rw [wnext i (by omega)]
      have hq:=ih (i+1) (by omega)
      have e2:decide (a[i]=b[i]∧a.drop (i+1)=b.drop (i+1))=decide (a.drop (i+1)=b.drop (i+1)):=decide_eq_decide.2 (and_iff_right e)
      rw [e2]
      exact hq
    · refine Ev.neg (by simp [e]) ?_
      have e2:decide (a[i]=b[i]∧a.drop (i+1)=b.drop (i+1))=false:=decide_eq_false (fun h=>e h.1)
      rw [e2]
      exact Ev.pure _
theorem eqTrie_ev (a b:List IN) (hl:a.length≤1048576):Ev (fun k=>laws_eqTrie.f k a b) (decide (a=b)):=by
  unfold laws_eqTrie.f laws_eqNodeS.f
  by_cases hab:a.length=b.length
  · refine Ev.bind (t:=decide (a=b)) (Ev.pos (by omega) ?_) ?_
    · simpa using eqNodeS_l0 a b hab hl a.length 0 (by omega)
    · by_cases e:a=b
      · simp only [e,decide_true,if_true];exact Ev.pure _
      · simp only [e,decide_false,Bool.false_eq_true,if_false];exact Ev.pure _
  · have e:a ≠ b:=fun h=>hab (congrArg List.length h)
    refine Ev.bind (t:=false) (Ev.neg (by omega) (Ev.pure _)) ?_
    simp only [e,decide_false,Bool.false_eq_true,if_false]
    exact Ev.pure _
end Go.Proofs.YtadpmgdmiaoniaaGreatDoor.Q
namespace Go.Proofs.YtadpmgdmiaoniaaGreatDoor.Q
open Go.RowKit Go.Proofs.YtadpmgdmiaoniaaGreatDoorW.PrintWords
def lw (b:ByteArray):List UInt8:=b.data.toList
def pw (l:List UInt8):ByteArray:=⟨l.toArray⟩
def setW (l:List ByteArray):List ByteArray:=(Lib.compact ((l.map lw).mergeSort fun x y=>decide (x≤y))).map pw
def pfx (w:ByteArray) (n:Nat):List ByteArray:=(List.range n).map fun j=>w.extract 0 (j+1)
def allPfx (l:List ByteArray):List ByteArray:=ByteArray.empty :: l.flatMap fun w=>pfx w w.size
def prefW (l:List ByteArray):List ByteArray:=setW (allPfx l)
def hasW (l:List ByteArray) (x:ByteArray):Bool:=l.any fun y=>decide (y=x)
def begW (w p:ByteArray):Bool:=decide (p.size≤w.size) && decide ((w.extract 0 p.size).toList=p.toList)
def nodeW (ps ws:List ByteArray) (p:ByteArray):S70 :=
  if p.size=0 then ⟨-1,-1,hasW ws p⟩
  else ⟨(bt p ((p.size:Int) - 1)+159) % 256,(ps.findIdx (fun x=>decide (x=p.extract 0 (p.size - 1))):Int),hasW ws p⟩
def trieW (ws:List ByteArray):List S70:=(prefW ws).map (nodeW (prefW ws) ws)
end Go.Proofs.YtadpmgdmiaoniaaGreatDoor.Q
namespace Go.Proofs.YtadpmgdmiaoniaaGreatDoor.Q
open Go.RowKit Go.Proofs.YtadpmgdmiaoniaaGreatDoorW.PrintWords
abbrev Ws:=List UInt8
theorem lw_pw (l:Ws):lw (pw l)=l:=rfl
theorem pw_lw (b:ByteArray):pw (lw b)=b:=rfl
theorem lw_inj {a b:ByteArray} (h:lw a=lw b):a=b:=by rw [← pw_lw a,h,pw_lw]
theorem mem_compact {x:Ws} {l:List Ws}:x ∈ Lib.compact l ↔ x ∈ l:=by
  unfold Lib.compact Lib.compactUpTo
  simp only [List.mem_map,List.mem_filter,List.mem_range]
  constructor
  · rintro ⟨j,⟨hj,_⟩,rfl⟩
    have:l.toArray[j]! = l[j]:=by simp [hj]
    rw [this];exact List.getElem_mem hj
  · intro hx
    obtain ⟨j,hj,hxj⟩:=List.getElem_of_mem hx
    -- the first place
    have hex:∃ i,i<l.length∧l.toArray[i]! = x∧∀ i',i'<i→l.toArray[i']! ≠ x:=by
      clear hx
      induction j using Nat.strongRecOn with
      | _ j ih =>
        by_cases h:∃ i',i'<j∧l.toArray[i']! = x
        · obtain ⟨i',h1,h2⟩:=h
          exact ih i' h1 (by omega) (by simpa [show i'<l.length by omega] using h2)
        · exact ⟨j,hj,by simp [hj,hxj],fun i' h1 h2=>h ⟨i',h1,h2⟩⟩
    obtain ⟨i,hi,hxi,hfirst⟩:=hex
    refine ⟨i,⟨hi,?_⟩,hxi⟩
    unfold Lib.keeps
    rw [decide_eq_true_iff]
    by_cases h0:i=0
    · exact .inl h0
    · refine .inr (fun e=>hfirst (i - 1) (by omega) ?_)
      rw [← e];exact hxi
theorem compact_strict {l:List Ws} (hs:l.Pairwise (·≤·)):(Lib.compact l).Pairwise (·<·):=by
  unfold Lib.compact Lib.compactUpTo
  rw [List.pairwise_map]
  have hr:((List.range l.length).filter (Lib.keeps l.toArray)).Pairwise (·<·):=List.pairwise_lt_range.filter _
  refine hr.imp_of_mem ?_
  intro i j hi hj hij
  simp only [List.mem_filter,List.mem_range] at hi hj
  obtain ⟨hj,hk⟩:=hj
  unfold Lib.keeps at hk
  rw [decide_eq_true_iff] at hk
  have hk2:l.toArray[j]! ≠ l.toArray[j - 1]! := by
    rcases hk with h|h
    · omega
    · exact h
  rw [List.pairwise_iff_getElem] at hs
  have e1:l.toArray[i]! = l[i]'(by omega):=by simp [show i<l.length by omega]
  have e2:l.toArray[j]! = l[j]'hj:=by simp [hj]
  have e3:l.toArray[j - 1]! = l[j - 1]'(by omega):=by simp [show j - 1<l.length by omega]
  rw [e2,e3] at hk2
  rw [e1,e2]
  have h1:l[j - 1]'(by omega)≤l[j]'hj:=hs (j - 1) j (by omega) hj (by omega)
  have h2:l[i]'(by omega)≤l[j - 1]'(by omega):=by
    by_cases e:i=j - 1
    · subst e;exact List.le_refl _
    · exact hs i (j - 1) (by omega) (by omega) (by omega)
  have h3:l[j - 1]'(by omega)<l[j]'hj:=by
    refine List.not_le.1 (fun h=>hk2 (List.le_antisymm h h1))
  exact List.lt_of_le_of_lt h2 h3
def SS (l:List ByteArray):Prop:=l.Pairwise fun a b=>lw a<lw b
theorem mem_setW {x:ByteArray} {l:List ByteArray}:x ∈ setW l ↔ x ∈ l:=by
  unfold setW
  rw [List.mem_map]
  constructor
  · rintro ⟨y,hy,rfl⟩
    rw [mem_compact,List.mem_mergeSort] at hy
    obtain ⟨z,hz,rfl⟩:=List.mem_map.1 hy
    rw [pw_lw];exact hz
  · intro hx
    exact ⟨lw x,by rw [mem_compact,List.mem_mergeSort];exact List.mem_map.2 ⟨x,hx,rfl⟩,pw_lw x⟩
theorem setW_ss (l:List ByteArray):SS (setW l):=by
  unfold SS setW
  rw [List.pairwise_map]
  have:((l.map lw).mergeSort fun x y=>decide (x≤y)).Pairwise (·≤·):=by
    have h:=List.pairwise_mergeSort (le:=fun x y:Ws=>decide (x≤y)) (fun a b c h1 h2=>by
      simp only [decide_eq_true_eq] at h1 h2 ⊢;exact List.le_trans h1 h2) (fun a b=>by
      simp only [Bool.or_eq_true,decide_eq_true_eq];exact List.le_total a b) (l.map lw)
    exact h.imp (fun h=>by simpa using h)
  exact (compact_strict this).imp (fun h=>by rw [lw_pw,lw_pw];exact h)
theorem ss_ext:∀ {a b:List ByteArray},SS a→SS b→(∀ x,x ∈ a ↔ x ∈ b)→a=b
  | [],[],_,_,_=>rfl
  | [],y :: b,_,_,h=>absurd ((h y).2 List.mem_cons_self) (by simp)
  | x :: a,[],_,_,h=>absurd ((h x).1 List.mem_cons_self) (by simp)
  | x :: a,y :: b,ha,hb,h=>by
    have ha':=List.pairwise_cons.1 ha
    have hb':=List.pairwise_cons.1 hb
    have hxy:x=y:=by
      rcases List.mem_cons.1 ((h x).1 List.mem_cons_self) with e|hx
      · exact e
      · rcases List.mem_cons.1 ((h y).2 List.mem_cons_self) with e|hy
        · exact e.symm
        · exact absurd (List.lt_trans (hb'.1 x hx) (ha'.1 y hy)) (List.lt_irrefl _)
    subst hxy
    congr 1
    refine ss_ext ha'.2 hb'.2 (fun z=>?_)
    constructor
    · intro hz
      rcases List.mem_cons.1 ((h z).1 (List.mem_cons_of_mem _ hz)) with e|h1
      · subst e;exact absurd (ha'.1 z hz) (List.lt_irrefl _)
      · exact h1
    · intro hz
      rcases List.mem_cons.1 ((h z).2 (List.mem_cons_of_mem _ hz)) with e|h1
      · subst e;exact absurd (hb'.1 z hz) (List.lt_irrefl _)
      · exact h1
theorem setW_of_ss {l:List ByteArray} (h:SS l):setW l=l:=ss_ext (setW_ss l) h (fun _=>mem_setW)
end Go.Proofs.YtadpmgdmiaoniaaGreatDoor.Q
namespace Go.Proofs.YtadpmgdmiaoniaaGreatDoor.Q
open Go.RowKit Go.Proofs.YtadpmgdmiaoniaaGreatDoorW.PrintWords Go.Proofs.YtadpmgdmiaoniaaGreatDoorW.PrintLast
theorem bl_eq (a b:ByteArray):Op.bytesLess a.toList b.toList=decide (lw a<lw b):=by
  rw [bytesLess_eq,Lib.toList_data,Lib.toList_data];rfl
theorem tl_eq (a b:ByteArray):a.toList=b.toList ↔ a=b:=by
  rw [Lib.toList_data,Lib.toList_data]
  exact ⟨fun h=>lw_inj h,fun h=>by rw [h]⟩
theorem less_pure (a b:ByteArray):cmp_Less_string.f a b=some (decide (lw a<lw b)):=by
  unfold cmp_Less_string.f cmp_isNaN_string.f
  simp [bl_eq]
theorem mid_wrap {i j:Int} (h0:0≤i) (h1:i≤j) (h2:j≤4398046511104):wrap64 ((IntKind.u64.wrap (wrap64 (i+j))) / 2)=(i+j) / 2:=by
  have e1:wrap64 (i+j)=i+j:=by unfold wrap64;omega
  have e2:IntKind.u64.wrap (i+j)=i+j:=by
    have:IntKind.u64.wrap (i+j)=(i+j) % 18446744073709551616:=by rfl
    rw [this];omega
  rw [e1,e2];unfold wrap64;omega
theorem next_wrap {i n:Int} (h0:0≤i) (h:i<n) (hn:n≤4398046511104):wrap64 (i+1)=i+1:=by unfold wrap64;omega
def atW (l:List ByteArray) (i:Int):Ws:=lw (rdOf ByteArray.empty l i)
def SW (l:List ByteArray):Prop:=l.Pairwise fun a b=>lw a≤lw b
theorem SW.at {l:List ByteArray} (h:SW l) {i j:Int} (h0:0≤i) (hij:i≤j) (hj:j<l.length):atW l i≤atW l j:=by
  unfold SW at h
  rw [List.pairwise_iff_getElem] at h
  by_cases e:i=j
  · subst e;exact List.le_refl _
  · have:=h i.toNat j.toNat (by omega) (by omega) (by omega)
    simp only [atW,rdOf]
    simpa [show i.toNat<l.length by omega,show j.toNat<l.length by omega] using this
theorem hasW_iff (l:List ByteArray) (x:ByteArray):hasW l x=true ↔ x ∈ l:=by
  simp [hasW]
theorem mem_at {l:List ByteArray} {x:ByteArray} (h:x ∈ l):∃ i:Int,0≤i∧i<l.length∧rdOf ByteArray.empty l i=x:=by
  obtain ⟨j,hj,rfl⟩:=List.getElem_of_mem h
  exact ⟨j,by omega,by omega,by simp [rdOf,hj]⟩
theorem at_mem {l:List ByteArray} {i:Int} (h0:0≤i) (h1:i<l.length):rdOf ByteArray.empty l i ∈ l:=by
  have:i.toNat<l.length:=by omega
  simp [rdOf,this]
theorem bs_loop (l:List ByteArray) (x:ByteArray) (hs:SW l) (hn:l.length≤4398046511104) (d:Nat):∀ (k:Nat) (i j:Int),0≤i→i≤j→j≤l.length→(j - i).toNat≤d→d<k →
    (∀ m:Int,0≤m→m<i→atW l m<lw x)→(∀ m:Int,j≤m→m<l.length→lw x≤atW l m) →
    ∃ r,slices_BinarySearch_string_string.l0 k l x (l.length:Int) i j=some (r,hasW l x)∧0≤r∧r≤l.length∧(∀ m:Int,0≤m→m<r→atW l m<lw x)∧(∀ m:Int,r≤m→m<l.length→lw x≤atW l m):=by
  induction d with
  | zero =>
    intro k i j h0 hij hj hd hk hlo hhi
    obtain ⟨k,rfl⟩:∃ m,k=m+1:=⟨k - 1,by omega⟩
    obtain rfl:i=j:=by omega
    refine ⟨i,?_,h0,hj,hlo,hhi⟩
    simp only [slices_BinarySearch_string_string.l0]
    rw [if_neg (by omega)]
    by_cases hi:i<l.length
    · rw [if_pos hi,if_pos h0,if_pos hi]
      by_cases e:(rdOf ByteArray.empty l i).toList=x.toList
      · rw [if_pos e]
        have:hasW l x=true:=(hasW_iff l x).2 ((tl_eq _ _).1 e ▸ at_mem h0 hi)
        rw [this]
      · rw [if_neg e]
        have:hasW l x=false:=by
          rw [← Bool.not_eq_true,hasW_iff]
          intro hm
          obtain ⟨m,hm0,hm1,rfl⟩:=mem_at hm
          by_cases hmi:m<i
          · exact List.lt_irrefl _ (hlo m hm0 hmi)
          · have h1:=hhi i (by omega) hi
            have h2:=hs.at h0 (by omega:i≤m) hm1
            exact e ((tl_eq _ _).2 (lw_inj (List.le_antisymm h2 h1)))
        rw [this]
        simp [slices_isNaN_string.f]
    · rw [if_neg hi]
      have:hasW l x=false:=by
        rw [← Bool.not_eq_true,hasW_iff]
        intro hm
        obtain ⟨m,hm0,hm1,rfl⟩:=mem_at hm
        exact List.lt_irrefl _ (hlo m hm0 (by omega))
      rw [this]
  | succ d ih =>
    intro k i j h0 hij hj hd hk hlo hhi
    by_cases hlt:i<j
    · obtain ⟨k,rfl⟩:∃ m,k=m+1:=⟨k - 1,by omega⟩
      simp only [slices_BinarySearch_string_string.l0]
      rw [if_pos hlt,mid_wrap h0 hij (by omega),if_pos (by omega),if_pos (by omega),less_pure]
      simp only [Option.bind_some]
      by_cases hl:lw (rdOf ByteArray.empty l ((i+j) / 2))<lw x
      · rw [if_pos (by simpa using hl),next_wrap (by omega) (by omega:(i+j) / 2<l.length) (by omega)]
        refine ih k _ j (by omega) (by omega) hj (by omega) (by omega) (fun m hm0 hm1=>?_) hhi
        exact List.lt_of_le_of_lt (hs.at hm0 (by omega:m≤(i+j) / 2) (by omega)) hl
      · rw [if_neg (by simpa using hl)]
        refine ih k i _ h0 (by omega) (by omega) (by omega) (by omega) hlo (fun m hm0 hm1=>?_)
        exact List.le_trans (List.not_lt.1 hl) (hs.at (by omega) hm0 hm1)
    · obtain ⟨r,h⟩:=ih k i j h0 hij hj (by omega) (by omega) hlo hhi
      exact ⟨r,h⟩
theorem bs_pure (l:List ByteArray) (x:ByteArray) (hs:SW l) (hn:l.length≤4398046511104) :
    ∃ k r,slices_BinarySearch_string_string.f k l x=some (r,hasW l x)∧0≤r∧r≤l.length∧(∀ m:Int,0≤m→m<r→atW l m<lw x)∧(∀ m:Int,r≤m→m<l.length→lw x≤atW l m):=by
  obtain ⟨r,h⟩:=bs_loop l x hs hn l.length (l.length+1) 0 l.length (by omega) (by omega) (by omega) (by omega) (by omega) (fun m h0 h1=>by omega) (fun m h0 h1=>by omega)
  exact ⟨_,r,h⟩
end Go.Proofs.YtadpmgdmiaoniaaGreatDoor.Q
namespace Go.Proofs.YtadpmgdmiaoniaaGreatDoor.Q
open Go.RowKit Go.Proofs.YtadpmgdmiaoniaaGreatDoorW.PrintWords Go.Proofs.YtadpmgdmiaoniaaGreatDoorW.PrintLast
theorem lw_extract (b:ByteArray) (n:Nat):lw (b.extract 0 n)=(lw b).take n:=by
  unfold lw
  rw [ByteArray.data_extract,Array.toList_extract,List.extract_eq_take_drop]
  simp
theorem lw_length (b:ByteArray):(lw b).length=b.size:=by unfold lw;rw [Array.length_toList];rfl
theorem ext_ext (b:ByteArray) (n m:Nat) (h:m≤n):(b.extract 0 n).extract 0 m=b.extract 0 m:=lw_inj (by
  rw [lw_extract,lw_extract,lw_extract,List.take_take,Nat.min_eq_left h])
theorem ext_all (b:ByteArray):b.extract 0 b.size=b:=lw_inj (by rw [lw_extract,← lw_length,List.take_length])
theorem ext_size (b:ByteArray) (n:Nat) (h:n≤b.size):(b.extract 0 n).size=n:=by rw [ByteArray.size_extract];omega
theorem mem_prefW {l:List ByteArray} {p:ByteArray}:p ∈ prefW l ↔ p=ByteArray.empty∨∃ w ∈ l,∃ j,j<w.size∧p=w.extract 0 (j+1):=by
  unfold prefW
  rw [mem_setW]
  unfold allPfx
  rw [List.mem_cons,List.mem_flatMap]
  refine or_congr Iff.rfl ⟨?_,?_⟩
  · rintro ⟨w,hw,h⟩
    obtain ⟨j,hj,rfl⟩:=List.mem_map.1 h
    exact ⟨w,hw,j,List.mem_range.1 hj,rfl⟩
  · rintro ⟨w,hw,j,hj,rfl⟩
    exact ⟨w,hw,List.mem_map.2 ⟨j,List.mem_range.2 hj,rfl⟩⟩
theorem prefW_ss (l:List ByteArray):SS (prefW l):=setW_ss _
theorem ext0 (b:ByteArray):b.extract 0 0=ByteArray.empty:=lw_inj (by rw [lw_extract];rfl)
theorem prefW_closed {l:List ByteArray} {p:ByteArray} (h:p ∈ prefW l):p.extract 0 (p.size - 1) ∈ prefW l:=by
  rcases mem_prefW.1 h with rfl|⟨w,hw,j,hj,rfl⟩
  · exact mem_prefW.2 (.inl (ext0 _))
  · rw [ext_size _ _ (by omega),Nat.add_sub_cancel,ext_ext _ _ _ (by omega)]
    cases j with
    | zero=>exact mem_prefW.2 (.inl (ext0 _))
    | succ j=>exact mem_prefW.2 (.inr ⟨w,hw,j,by omega,rfl⟩)
theorem take_lt (l:Ws) (n:Nat) (h:n<l.length):l.take n<l:=by
  have e:l=l.take n ++ l.drop n:=(List.take_append_drop n l).symm
  rcases hd:l.drop n with _|⟨x,r⟩
  · have:=congrArg List.length hd
    rw [List.length_drop] at this
    simp at this
    omega
  · rw [hd] at e
    have h2:∀ (a:Ws),a<a ++ x :: r:=fun a=>by
      induction a with
      | nil=>exact List.nil_lt_cons _ _
      | cons y a ih=>exact List.cons_lt_cons_iff.2 (.inr ⟨rfl,ih⟩)
    calc l.take n<l.take n ++ x :: r:=h2 _
      _=l:=e.symm
theorem cut_lt (p:ByteArray) (h:p.size ≠ 0):lw (p.extract 0 (p.size - 1))<lw p:=by
  rw [lw_extract]
  exact take_lt _ _ (by rw [lw_length];omega)
theorem rd_nat (ps:List ByteArray) {j:Nat} (h:j<ps.length):rdOf ByteArray.empty ps (j:Int)=ps[j]:=by simp [rdOf,h]
theorem ss_at {ps:List ByteArray} (h:SS ps) {i j:Nat} (hij:i<j) (hj:j<ps.length):lw (rdOf ByteArray.empty ps (i:Int))<lw (rdOf ByteArray.empty ps (j:Int)):=by
  rw [rd_nat ps (by omega),rd_nat ps hj]
  exact (List.pairwise_iff_getElem.1 h) i j (by omega) hj hij
theorem ss_idx {ps:List ByteArray} (h:SS ps) {i j:Nat} (hi:i<ps.length) (hj:j<ps.length) (hlt:lw (rdOf ByteArray.empty ps (i:Int))<lw (rdOf ByteArray.empty ps (j:Int))):i<j:=by
  rcases Nat.lt_trichotomy i j with h1|h1|h1
  · exact h1
  · subst h1;exact absurd hlt (List.lt_irrefl _)
  · exact absurd (List.lt_trans hlt (ss_at h h1 hi)) (List.lt_irrefl _)
theorem find_at {ps:List ByteArray} (h:SS ps) {j:Nat} (hj:j<ps.length) (x:ByteArray) (hx:rdOf ByteArray.empty ps (j:Int)=x):ps.findIdx (fun y=>decide (y=x))=j:=by
  have hp:(fun y=>decide (y=x)) ps[j]=true:=by rw [← hx,rd_nat ps hj];simp
  refine Nat.le_antisymm (Nat.le_of_not_lt fun hlt=>?_) (Nat.le_of_not_lt fun hlt=>?_)
  · exact absurd hp (by simpa using List.not_of_lt_findIdx hlt)
  · have hl:ps.findIdx (fun y=>decide (y=x))<ps.length:=Nat.lt_trans hlt hj
    have hq:=List.findIdx_getElem (p:=fun y=>decide (y=x)) (xs:=ps) (w:=hl)
    rw [decide_eq_true_iff] at hq
    have h2:=(List.pairwise_iff_getElem.1 h) _ j hl hj hlt
    rw [hq,← hx,rd_nat ps hj] at h2
    exact List.lt_irrefl _ h2
theorem cut_idx {l:List ByteArray} {k:Nat} (hk:k<(prefW l).length) {p:ByteArray} (hp:p=rdOf ByteArray.empty (prefW l) (k:Int)) (h0:p.size ≠ 0) :
    ∃ j,j<k∧rdOf ByteArray.empty (prefW l) (j:Int)=p.extract 0 (p.size - 1)∧(prefW l).findIdx (fun y=>decide (y=p.extract 0 (p.size - 1)))=j:=by
  have hm:p ∈ prefW l:=by rw [hp,rd_nat _ hk];exact List.getElem_mem hk
  obtain ⟨j,hj,e⟩:=List.getElem_of_mem (prefW_closed hm)
  have e':rdOf ByteArray.empty (prefW l) (j:Int)=p.extract 0 (p.size - 1):=by rw [rd_nat _ hj];exact e
  refine ⟨j,ss_idx (prefW_ss l) hj hk ?_,e',find_at (prefW_ss l) hj _ e'⟩
  rw [e',← hp]
  exact cut_lt p h0
end Go.Proofs.YtadpmgdmiaoniaaGreatDoor.Q
namespace Go.Proofs.YtadpmgdmiaoniaaGreatDoor.Q
open Go.RowKit Go.Proofs.YtadpmgdmiaoniaaGreatDoorW.PrintWords Go.Proofs.YtadpmgdmiaoniaaGreatDoorW.PrintLast Go.Proofs.YtadpmgdmiaoniaaGreatDoorW.PrintMore
attribute [local go_sem] run_field_23 run_field_24 run_field_30 run_field_31 isSome_setCell max2_int min2_int max_two min_two max_three min_three max_four min_four   -- for this text's walks alone
set_option linter.unusedVariables false
set_option linter.unusedSimpArgs false
attribute [local go_sem high] eqA70
def slices_IsSorted_string_string.l0:Nat→List ByteArray→Int→Option (Bool)
  | 0,_,_=>none
  | k+1,x0,x3=>if x3 > 0 then (if 0≤x3 then (if x3<(x0.length:Int) then (if 0≤(wrap64 (x3 - 1)) then (if (wrap64 (x3 - 1))<(x0.length:Int) then ((cmp_Less_string.f (rdOf ByteArray.empty x0 x3) (rdOf ByteArray.empty x0 (wrap64 (x3 - 1)))).bind fun t403=>(if t403=true then (some false) else (slices_IsSorted_string_string.l0 k x0 (wrap64 (x3 - 1))))) else (none)) else (none)) else (none)) else (none)) else (some true)
def slices_IsSorted_string_string.f (k:Nat) (l0:List ByteArray):Option (Bool):=slices_IsSorted_string_string.l0 k l0 (wrap64 ((l0.length:Int) - 1))
set_option maxHeartbeats 8000000 in
set_option maxRecDepth 100000 in
theorem slices_IsSorted_string_string.calls (k:Nat) (A0:Option Addr) (c0:Nat) (l0:List ByteArray) (r:Bool) (w:World) (hr0:Kd.C Kd.string w A0 l0.length l0) (hc0:l0.length≤c0) (h:slices_IsSorted_string_string.f k l0=some r) :
  Calls Tryz.prog 60 #[.slice A0 l0.length c0] w fun e w'=>e=.returned (.bool r)∧Drawn0 w w':=by
 have HR0:=Zz.mk hr0
 have HC0:=Zz.mk hc0
 clear hr0 hc0
 have H:(slices_IsSorted_string_string.l0 k l0 (wrap64 ((l0.length:Int) - 1)))=some r:=h
 clear h
 have H':=Zz.mk H
 clear H
 go_enter Tryz.func60,Tryz.ntmps60
 go_wp2
 repeat (go_quiet (fail);try go_wp2)
 go_loopg [3] k (fun kq v3 w'=>∃ (x3_1:Int),v3=.int .i64 x3_1∧Zz (slices_IsSorted_string_string.l0 kq l0 x3_1=some r)∧Zz (kq≤k)∧Drawn0 w w')
 case atStart=>exact ⟨(wrap64 ((l0.length:Int) - 1)),(by first|rfl|(simp;done)|(simp [*];done)),H',⟨Nat.le_refl _⟩,by repeat (first|exact Drawn0.refl _|apply Drawn0.step)⟩
 case round =>
  clear H'
  obtain ⟨x3_1,rfl,HA,HK1,⟨m1,rfl⟩⟩:=hrel
  cases gk with
  | zero=>exact absurd HA.out (by simp [slices_IsSorted_string_string.l0])
  | succ k1 =>
   have H:=HA.out
   clear HA
   simp only [slices_IsSorted_string_string.l0] at H
   by_cases c2:x3_1 > 0
   ·rw [if_pos c2] at H
    have c2b0:decide (0<x3_1)=true:=decide_eq_true c2
    clear c2
    by_cases c3:0≤x3_1
    ·rw [if_pos c3] at H
     have c3b0:decide (0≤x3_1)=true:=decide_eq_true c3
     clear c3
     by_cases c4:x3_1<(l0.length:Int)
     ·rw [if_pos c4] at H
      have c4b0:decide (x3_1<(l0.length:Int))=true:=decide_eq_true c4
      clear c4
      obtain ⟨ji5,hji5⟩:∃ j_:Int,(wrap64 (x3_1 - 1))=j_:=⟨_,rfl⟩
      replace H:(if 0≤(ji5) then (if (ji5)<(l0.length:Int) then ((cmp_Less_string.f (rdOf ByteArray.empty l0 x3_1) (rdOf ByteArray.empty l0 (ji5))).bind fun t403=>(if t403=true then (some false) else (slices_IsSorted_string_string.l0 k1 l0 ji5))) else (none)) else (none))=some r:=by first|(rw [hji5] at H;exact H)|(simp only [hji5] at H ⊢;exact H)
      have hji5w:(IntKind.i64.wrap (x3_1 - 1))=ji5:=(i64_w _).trans hji5
      by_cases c6:0≤(ji5)
      ·rw [if_pos c6] at H
       have c6b0:decide (0≤(ji5))=true:=decide_eq_true c6
       clear c6
       by_cases c7:(ji5)<(l0.length:Int)
       ·rw [if_pos c7] at H
        have c7b0:decide ((ji5)<(l0.length:Int))=true:=decide_eq_true c7
        clear c7
        replace H:=Option.bind_eq_some_iff.mp H
        obtain ⟨t403,A80,H⟩:=H
        replace H:(if t403=true then (some false) else (slices_IsSorted_string_string.l0 k1 l0 ji5))=some r:=H
        have A8:=Zz.mk A80
        clear A80
        by_cases c9:t403=true
        ·subst c9
         have H1:(some false)=some r:=by rw [if_pos rfl] at H;exact H
         clear H
         have H:=H1
         clear H1
         obtain rfl:=Option.some.inj H
         have p401:0≤(x3_1:Int):=of_decide_eq_true (by first|(with_reducible assumption)|assumption)
         have q401:x3_1<(l0.length:Int):=of_decide_eq_true (by first|(with_reducible assumption)|assumption)
         obtain ⟨ad401,e401,hx401_0⟩:=Kd.at_string HR0.out x3_1 p401 q401
         cases e401
         replace p401:=eq_true p401
         replace q401:=eq_true q401
         have p402:0≤((ji5):Int):=of_decide_eq_true (by first|(with_reducible assumption)|assumption)
         have q402:(ji5)<(l0.length:Int):=of_decide_eq_true (by first|(with_reducible assumption)|assumption)
         obtain ⟨ad402,e402,hx402_0⟩:=Kd.at_string HR0.out (ji5) p402 q402
         obtain rfl:ad401=ad402:=(by injection e402)
         replace p402:=eq_true p402
         replace q402:=eq_true q402
         go_wp2_with (first|(go_at_call 80;(with_reducible refine (cmp_Less_string.calls (rdOf ByteArray.empty l0 x3_1) (rdOf ByteArray.empty l0 (ji5)) true _ A8.out).mono ?_);rintro e w' ⟨rfl,⟨nd,rfl⟩⟩;(try first|exact ⟨rfl,_,World.drewN_drewN _ _ _⟩|exact ⟨rfl,_,Eq.trans (World.drewN_drewN _ _ _) (congrArg (World.drewN _) (Nat.add_assoc _ _ _))⟩)))
         repeat (go_quiet (first|(go_at_call 80;(with_reducible refine (cmp_Less_string.calls (rdOf ByteArray.empty l0 x3_1) (rdOf ByteArray.empty l0 (ji5)) true _ A8.out).mono ?_);rintro e w' ⟨rfl,⟨nd,rfl⟩⟩;(try first|exact ⟨rfl,_,World.drewN_drewN _ _ _⟩|exact ⟨rfl,_,Eq.trans (World.drewN_drewN _ _ _) (congrArg (World.drewN _) (Nat.add_assoc _ _ _))⟩)));try go_wp2_with (first|(go_at_call 80;(with_reducible refine (cmp_Less_string.calls (rdOf ByteArray.empty l0 x3_1) (rdOf ByteArray.empty l0 (ji5)) true _ A8.out).mono ?_);rintro e w' ⟨rfl,⟨nd,rfl⟩⟩;(try first|exact ⟨rfl,_,World.drewN_drewN _ _ _⟩|exact ⟨rfl,_,Eq.trans (World.drewN_drewN _ _ _) (congrArg (World.drewN _) (Nat.add_assoc _ _ _))⟩))))
         go_ret
         exact ⟨by first|rfl|(simp;done)|(simp only [← hji5] <;> (first|rfl|simp))|(simp [*];done),by repeat (first|exact Drawn0.refl _|apply Drawn0.step)⟩
        ·replace c9:=Bool.eq_false_iff.mpr c9
         subst c9
         have H1:(slices_IsSorted_string_string.l0 k1 l0 ji5)=some r:=by rw [if_neg (show ¬ (false=true) by decide)] at H;exact H
         clear H
         have H:=H1
         clear H1
         have H':=Zz.mk H
         clear H
         have p401:0≤(x3_1:Int):=of_decide_eq_true (by first|(with_reducible assumption)|assumption)
         have q401:x3_1<(l0.length:Int):=of_decide_eq_true (by first|(with_reducible assumption)|assumption)
         obtain ⟨ad401,e401,hx401_0⟩:=Kd.at_string HR0.out x3_1 p401 q401
         cases e401
         replace p401:=eq_true p401
         replace q401:=eq_true q401
         have p402:0≤((ji5):Int):=of_decide_eq_true (by first|(with_reducible assumption)|assumption)
         have q402:(ji5)<(l0.length:Int):=of_decide_eq_true (by first|(with_reducible assumption)|assumption)
         obtain ⟨ad402,e402,hx402_0⟩:=Kd.at_string HR0.out (ji5) p402 q402
         obtain rfl:ad401=ad402:=(by injection e402)
         replace p402:=eq_true p402
         replace q402:=eq_true q402
         go_wp2_with (first|(go_at_call 80;(with_reducible refine (cmp_Less_string.calls (rdOf ByteArray.empty l0 x3_1) (rdOf ByteArray.empty l0 (ji5)) false _ A8.out).mono ?_);rintro e w' ⟨rfl,⟨nd,rfl⟩⟩;(try first|exact ⟨rfl,_,World.drewN_drewN _ _ _⟩|exact ⟨rfl,_,Eq.trans (World.drewN_drewN _ _ _) (congrArg (World.drewN _) (Nat.add_assoc _ _ _))⟩)))
         repeat (go_quiet (first|(go_at_call 80;(with_reducible refine (cmp_Less_string.calls (rdOf ByteArray.empty l0 x3_1) (rdOf ByteArray.empty l0 (ji5)) false _ A8.out).mono ?_);rintro e w' ⟨rfl,⟨nd,rfl⟩⟩;(try first|exact ⟨rfl,_,World.drewN_drewN _ _ _⟩|exact ⟨rfl,_,Eq.trans (World.drewN_drewN _ _ _) (congrArg (World.drewN _) (Nat.add_assoc _ _ _))⟩)));try go_wp2_with (first|(go_at_call 80;(with_reducible refine (cmp_Less_string.calls (rdOf ByteArray.empty l0 x3_1) (rdOf ByteArray.empty l0 (ji5)) false _ A8.out).mono ?_);rintro e w' ⟨rfl,⟨nd,rfl⟩⟩;(try first|exact ⟨rfl,_,World.drewN_drewN _ _ _⟩|exact ⟨rfl,_,Eq.trans (World.drewN_drewN _ _ _) (congrArg (World.drewN _) (Nat.add_assoc _ _ _))⟩))))
         go_roundg k1
         case measure=>have:=HK1.out;omega
         case rel=>exact ⟨(ji5),(by first|rfl|(simp;done)|(simp only [← hji5] <;> (first|rfl|simp))|(simp [*];done)),H',⟨by have:=HK1.out;omega⟩,by repeat (first|exact Drawn0.refl _|apply Drawn0.step)⟩
       ·rw [if_neg c7] at H
        exact absurd H (by simp)
      ·rw [if_neg c6] at H
       exact absurd H (by simp)
     ·rw [if_neg c4] at H
      exact absurd H (by simp)
    ·rw [if_neg c3] at H
     exact absurd H (by simp)
   ·rw [if_neg c2] at H
    have c2b0:decide (0<x3_1)=false:=decide_eq_false c2
    clear c2
    obtain rfl:=Option.some.inj H
    go_wp2
    repeat (go_quiet (fail);try go_wp2)
    go_ret
    exact ⟨by first|rfl|(simp;done)|(simp [*];done),by repeat (first|exact Drawn0.refl _|apply Drawn0.step)⟩
def impl_Node.l0:Nat→List (S70)→List (S70)→Int→Int→Option (Bool)
 | 0,_,_,_,_=>none
 | k+1,x0,x1,x12,x13=>if x13<x12 then (if 0≤x13 then (if x13<(x0.length:Int) then (if x13<(x1.length:Int) then (if (!(((rd_T70 x0 x13).f0) == ((rd_T70 x1 x13).f0)) || (!(((rd_T70 x0 x13).f1) == ((rd_T70 x1 x13).f1)) || (!(((rd_T70 x0 x13).f2) == ((rd_T70 x1 x13).f2)))))=true then (some false) else (impl_Node.l0 k x0 x1 x12 (wrap64 (x13+1)))) else (none)) else (none)) else (none)) else (some true)
def impl_Node.f (k:Nat) (l0:List (S70)) (l1:List (S70)):Option (Bool):=if (l0.length:Int)=(l1.length:Int) then (impl_Node.l0 k l0 l1 (l0.length:Int) 0) else (some false)
set_option maxHeartbeats 8000000 in
set_option maxRecDepth 100000 in
theorem impl_Node.calls (k:Nat) (A0:Option Addr) (c0:Nat) (l0:List (S70)) (A1:Option Addr) (c1:Nat) (l1:List (S70)) (r:Bool) (w:World) (hr0:Kd.C k70 w A0 l0.length l0) (hc0:l0.length≤c0) (hr1:Kd.C k70 w A1 l1.length l1) (hc1:l1.length≤c1) (h:impl_Node.f k l0 l1=some r) :
  Calls Tryz.prog 61 #[.slice A0 l0.length c0,.slice A1 l1.length c1] w fun e w'=>e=.returned (.bool r)∧Drawn0 w w':=by
 have hu70:=Tryz.underlying70
 have HR0:=Zz.mk hr0
 have HC0:=Zz.mk hc0
 clear hr0 hc0
 have HR1:=Zz.mk hr1
 have HC1:=Zz.mk hc1
 clear hr1 hc1
 have H:(if (l0.length:Int)=(l1.length:Int) then (impl_Node.l0 k l0 l1 (l0.length:Int) 0) else (some false))=some r:=h
 clear h
 by_cases c3:(l0.length:Int)=(l1.length:Int)
 ·rw [if_pos c3] at H
  have c3b0:((l0.length:Int) == (l1.length:Int))=true:=beq_iff_eq.mpr c3
  have c3b1:((l0.length:Int) != (l1.length:Int))=false:=bne_eq_false_iff_eq.mpr c3
  have c3b2:(l0.length == l1.length)=true:=by first|simpa using c3|(simp at c3 ⊢;omega)
  clear c3
  have H':=Zz.mk H
  clear H
  go_enter Tryz.func61,Tryz.ntmps61
  go_wp2
  repeat (go_quiet (fail);try go_wp2)
  go_loopg [13] k (fun kq v13 w'=>∃ (x13_1:Int),v13=.int .i64 x13_1∧Zz (impl_Node.l0 kq l0 l1 (l0.length:Int) x13_1=some r)∧Zz (kq≤k)∧Drawn0 w w')
  case atStart=>exact ⟨(0),(by first|rfl|(simp;done)|(simp [*];done)),H',⟨Nat.le_refl _⟩,by repeat (first|exact Drawn0.refl _|apply Drawn0.step)⟩
  case round =>
   clear H'
   try clear c1
   try clear p2
   try clear c3
   try clear c3b0
   try clear c3b1
   try clear c3b2
   obtain ⟨x13_1,rfl,HA,HK1,⟨m1,rfl⟩⟩:=hrel
   cases gk with
   | zero=>exact absurd HA.out (by simp [impl_Node.l0])
   | succ k1 =>
    have H:=HA.out
    clear HA
    simp only [impl_Node.l0] at H
    by_cases c4:x13_1<(l0.length:Int)
    ·rw [if_pos c4] at H
     have c4b0:decide (x13_1<(l0.length:Int))=true:=decide_eq_true c4
     clear c4
     by_cases c5:0≤x13_1
     ·rw [if_pos c5] at H
      have c5b0:decide (0≤x13_1)=true:=decide_eq_true c5
      clear c5
      by_cases c6:x13_1<(l0.length:Int)
      ·rw [if_pos c6] at H
       have c6b0:decide (x13_1<(l0.length:Int))=true:=decide_eq_true c6
       clear c6
       by_cases c7:x13_1<(l1.length:Int)
       ·rw [if_pos c7] at H
        have c7b0:decide (x13_1<(l1.length:Int))=true:=decide_eq_true c7
        clear c7
        by_cases c8:(!(((rd_T70 l0 x13_1).f0) == ((rd_T70 l1 x13_1).f0)) || (!(((rd_T70 l0 x13_1).f1) == ((rd_T70 l1 x13_1).f1)) || (!(((rd_T70 l0 x13_1).f2) == ((rd_T70 l1 x13_1).f2)))))=true
        ·rw [if_pos c8] at H
         have c8b0:(!(((rd_T70 l0 x13_1).f0) == ((rd_T70 l1 x13_1).f0)) || (!(((rd_T70 l0 x13_1).f1) == ((rd_T70 l1 x13_1).f1)) || (!(((rd_T70 l0 x13_1).f2) == ((rd_T70 l1 x13_1).f2)))))=true:=c8
         clear c8
         obtain rfl:=Option.some.inj H
         have p404:0≤(x13_1:Int):=of_decide_eq_true (by first|(with_reducible assumption)|assumption)
         have q404:x13_1<(l0.length:Int):=of_decide_eq_true (by first|(with_reducible assumption)|assumption)
         obtain ⟨ad404,e404,hx404_0,hx404_1,hx404_2⟩:=at_T70 HR0.out x13_1 p404 q404
         cases e404
         replace p404:=eq_true p404
         replace q404:=eq_true q404
         have p405:0≤(x13_1:Int):=of_decide_eq_true (by first|(with_reducible assumption)|assumption)
         have q405:x13_1<(l1.length:Int):=of_decide_eq_true (by first|(with_reducible assumption)|assumption)
         obtain ⟨ad405,e405,hx405_0,hx405_1,hx405_2⟩:=at_T70 HR1.out x13_1 p405 q405
         cases e405
         replace p405:=eq_true p405
         replace q405:=eq_true q405
         go_wp2
         repeat (go_quiet (fail);try go_wp2)
         go_ret
         exact ⟨by first|rfl|(simp;done)|(simp [*];done),by repeat (first|exact Drawn0.refl _|apply Drawn0.step)⟩
        ·rw [if_neg c8] at H
         have c8b0:(!(((rd_T70 l0 x13_1).f0) == ((rd_T70 l1 x13_1).f0)) || (!(((rd_T70 l0 x13_1).f1) == ((rd_T70 l1 x13_1).f1)) || (!(((rd_T70 l0 x13_1).f2) == ((rd_T70 l1 x13_1).f2)))))=false:=by simpa using c8
         clear c8
         have H':=Zz.mk H
         clear H
         have p404:0≤(x13_1:Int):=of_decide_eq_true (by first|(with_reducible assumption)|assumption)
         have q404:x13_1<(l0.length:Int):=of_decide_eq_true (by first|(with_reducible assumption)|assumption)
         obtain ⟨ad404,e404,hx404_0,hx404_1,hx404_2⟩:=at_T70 HR0.out x13_1 p404 q404
         cases e404
         replace p404:=eq_true p404
         replace q404:=eq_true q404
         have p405:0≤(x13_1:Int):=of_decide_eq_true (by first|(with_reducible assumption)|assumption)
         have q405:x13_1<(l1.length:Int):=of_decide_eq_true (by first|(with_reducible assumption)|assumption)
         obtain ⟨ad405,e405,hx405_0,hx405_1,hx405_2⟩:=at_T70 HR1.out x13_1 p405 q405
         cases e405
         replace p405:=eq_true p405
         replace q405:=eq_true q405
         go_wp2
         repeat (go_quiet (fail);try go_wp2)
         go_roundg k1
         case measure=>have:=HK1.out;omega
         case rel=>exact ⟨(wrap64 (x13_1+1)),(by first|rfl|(simp;done)|(simp [*];done)),H',⟨by have:=HK1.out;omega⟩,by repeat (first|exact Drawn0.refl _|apply Drawn0.step)⟩
       ·rw [if_neg c7] at H
        exact absurd H (by simp)
      ·rw [if_neg c6] at H
       exact absurd H (by simp)
     ·rw [if_neg c5] at H
      exact absurd H (by simp)
    ·rw [if_neg c4] at H
     have c4b0:decide (x13_1<(l0.length:Int))=false:=decide_eq_false c4
     clear c4
     obtain rfl:=Option.some.inj H
     go_wp2
     repeat (go_quiet (fail);try go_wp2)
     go_ret
     exact ⟨by first|rfl|(simp;done)|(simp [*];done),by repeat (first|exact Drawn0.refl _|apply Drawn0.step)⟩
 ·rw [if_neg c3] at H
  have c3b0:((l0.length:Int) == (l1.length:Int))=false:=beq_eq_false_iff_ne.mpr c3
  have c3b1:((l0.length:Int) != (l1.length:Int))=true:=bne_iff_ne.mpr c3
  have c3b2:(l0.length == l1.length)=false:=by first|simpa using c3|(simp at c3 ⊢;omega)
  obtain rfl:=Option.some.inj H
  go_enter Tryz.func61,Tryz.ntmps61
  go_wp2
  repeat (go_quiet (fail);try go_wp2)
  go_ret
  exact ⟨by first|rfl|(simp;done)|(simp [*];done),by repeat (first|exact Drawn0.refl _|apply Drawn0.step)⟩
end Go.Proofs.YtadpmgdmiaoniaaGreatDoor.Q
namespace Go.Proofs.YtadpmgdmiaoniaaGreatDoor.Q
open Go.RowKit Go.Proofs.YtadpmgdmiaoniaaGreatDoorW.PrintWords Go.Proofs.YtadpmgdmiaoniaaGreatDoorW.PrintLast Go.Proofs.YtadpmgdmiaoniaaGreatDoorW.PrintMore
set_option linter.unusedVariables false
set_option linter.unusedSimpArgs false
def longW (p:ByteArray):Bool:=decide (12<(p.size:Int))
def slices_ContainsFunc_string_string_impl_isTrie_1.f (l0:List ByteArray):Option Bool:=if l0.length<4611686018427387904 then some (l0.any longW) else none
theorem isTrie1_calls (x:ByteArray) (w:World) :
  Calls Tryz.prog 59 #[.string x] w fun e w'=>e=.returned (.bool (longW x))∧w=w':=by
 go_enter Tryz.func59,Tryz.ntmps59
 go_wp2
 go_ret
 exact ⟨by unfold longW;simp,rfl⟩
theorem any_cut (l:List ByteArray) (p:ByteArray→Bool) (m:Nat) (h:∀ j,j<m→p (rdOf ByteArray.empty l (j:Int))=false) (hm:l.length≤m):l.any p=false:=by
 rw [List.any_eq_false]
 intro x hx
 obtain ⟨j,hj,rfl⟩:=List.getElem_of_mem hx
 have:=h j (by omega)
 simp [rdOf,hj] at this
 simp [this]
theorem any_hit (l:List ByteArray) (p:ByteArray→Bool) (m:Nat) (hm:m<l.length) (h:p (rdOf ByteArray.empty l (m:Int))=true):l.any p=true:=by
 rw [List.any_eq_true]
 refine ⟨l[m],List.getElem_mem hm,?_⟩
 simpa [rdOf,hm] using h
def Found (l:List ByteArray) (p:ByteArray→Bool) (w:World) (e:Ending) (w':World):Prop:=∃ i:Int,e=.returned (.int .i64 i)∧decide (0≤i)=l.any p∧w=w'
def Clean (l:List ByteArray) (p:ByteArray→Bool) (m:Nat):Prop:=∀ j,j<m→p (rdOf ByteArray.empty l (j:Int))=false
set_option maxHeartbeats 1000000 in
theorem indexFunc_isTrie1 (A0:Option Addr) (c0:Nat) (l0:List ByteArray) (w:World) (hr0:Kd.C Kd.string w A0 l0.length l0) (hn:l0.length<4611686018427387904) :
  Calls Tryz.prog 79 #[.slice A0 l0.length c0,.func (.func 59) #[] #[]] w (Found l0 longW w):=by
 have HR0:=Zz.mk hr0
 clear hr0
 go_enter Tryz.func79,Tryz.ntmps79
 go_wp2
 go_loop [8] (fun i=>∃ m:Nat,m≤l0.length∧i=.int .i64 m∧Zz (Clean l0 longW m)) (fun i=>l0.length - (intOf i).toNat)
 case atStart=>exact ⟨0,Nat.zero_le _,rfl,⟨fun j hj=>absurd hj (Nat.not_lt_zero _)⟩⟩
 case round =>
  obtain ⟨m,hm,rfl,HA⟩:=hrel
  by_cases hlt:m<l0.length
  ·obtain ⟨ad,e0,hx⟩:=Kd.at_string HR0.out (m:Int) (by omega) (by omega)
   cases e0
   simp only [Int.toNat_natCast] at hx
   cases hp:longW (rdOf ByteArray.empty l0 (m:Int)) with
   | true =>
    have hany:=any_hit l0 longW m hlt hp
    have hp':=Zz.mk hany
    clear hany
    go_wp2_with (go_at_call 59;refine (isTrie1_calls _ _).mono ?_;rintro e w' ⟨rfl,rfl⟩)
    go_ret
    exact ⟨m,rfl,by rw [hp'.out];simp,rfl⟩
   | false =>
    have hq:Zz (Clean l0 longW (m+1)):=⟨fun j hj=>by
     by_cases e:j=m
     ·rw [e];exact hp
     ·exact HA.out j (by omega)⟩
    go_wp2_with (go_at_call 59;refine (isTrie1_calls _ _).mono ?_;rintro e w' ⟨rfl,rfl⟩)
    go_round
    case rel=>exact ⟨m+1,by omega,by go_num,hq⟩
    case measure=>simp [intOf];omega
  ·have hz:Zz (l0.any longW=false):=⟨any_cut l0 longW m HA.out (by omega)⟩
   go_wp2
   go_ret
   exact ⟨-1,rfl,by rw [hz.out];rfl,rfl⟩
theorem slices_ContainsFunc_string_string_impl_isTrie_1.calls (A0:Option Addr) (c0:Nat) (l0:List ByteArray) (r:Bool) (w:World) (hr0:Kd.C Kd.string w A0 l0.length l0) (hc0:l0.length≤c0) (h:slices_ContainsFunc_string_string_impl_isTrie_1.f l0=some r) :
  Calls Tryz.prog 58 #[.slice A0 l0.length c0,.func (.func 59) #[] #[]] w fun e w'=>e=.returned (.bool r)∧Drawn0 w w':=by
 unfold slices_ContainsFunc_string_string_impl_isTrie_1.f at h
 split at h
 ·rename_i hn
  obtain rfl:=Option.some.inj h
  clear h
  go_enter Tryz.func58,Tryz.ntmps58
  go_wp2_with (go_at_call 79;refine (indexFunc_isTrie1 _ _ l0 _ hr0 hn).mono ?_;rintro e w' ⟨i,rfl,hi,rfl⟩;replace hi:=Zz.mk hi)
  go_ret
  exact ⟨by rw [← hi.out];rfl,Drawn0.refl _⟩
 ·cases h
end Go.Proofs.YtadpmgdmiaoniaaGreatDoor.Q
namespace Go.Proofs
open Go.Shelf
def Tryz.lTrim_ren:Go.Shelf.Ren:=⟨fun|160=>56|232=>71|231=>70|227=>72|234=>74|233=>73|236=>76|235=>75|228=>96|271=>99|151=>98|197=>97|120=>113|152=>112|260=>111|137=>118|119=>119|224=>120|225=>121|217=>124|266=>133|n=>n,fun|9=>9|4=>4|3=>3|5=>5|117=>98|116=>97|0=>0|124=>101|21=>21|105=>119|46=>91|119=>138|139=>141|138=>140|n=>n,fun|3=>0|4=>1|n=>n⟩
theorem Tryz.lTrim:Go.Proofs.Lays.n160 Tryz.prog Tryz.lTrim_ren:={
  mixed:=by kernel_rfl
  f119:=Tryz.func119.trans (congrArg some (by kernel_rfl))
  f120:=Tryz.func113.trans (congrArg some (by kernel_rfl))
  f137:=Tryz.func118.trans (congrArg some (by kernel_rfl))
  f151:=Tryz.func98.trans (congrArg some (by kernel_rfl))
  f152:=Tryz.func112.trans (congrArg some (by kernel_rfl))
  f160:=Tryz.func56.trans (congrArg some (by kernel_rfl))
  f197:=Tryz.func97.trans (congrArg some (by kernel_rfl))
  f217:=Tryz.func124.trans (congrArg some (by kernel_rfl))
  f224:=Tryz.func120.trans (congrArg some (by kernel_rfl))
  f225:=Tryz.func121.trans (congrArg some (by kernel_rfl))
  f227:=Tryz.func72.trans (congrArg some (by kernel_rfl))
  f228:=Tryz.func96.trans (congrArg some (by kernel_rfl))
  f231:=Tryz.func70.trans (congrArg some (by kernel_rfl))
  f232:=Tryz.func71.trans (congrArg some (by kernel_rfl))
  f233:=Tryz.func73.trans (congrArg some (by kernel_rfl))
  f234:=Tryz.func74.trans (congrArg some (by kernel_rfl))
  f235:=Tryz.func75.trans (congrArg some (by kernel_rfl))
  f236:=Tryz.func76.trans (congrArg some (by kernel_rfl))
  f260:=Tryz.func111.trans (congrArg some (by kernel_rfl))
  f266:=Tryz.func133.trans (congrArg some (by kernel_rfl))
  f271:=Tryz.func99.trans (congrArg some (by kernel_rfl))
  t0:=Tryz.underlying0
  a0:=Tryz.isAgg0
  z0:=Tryz.sizeOf0
  v0:=Tryz.zeroValue0
  t3:=Tryz.underlying3
  a3:=Tryz.isAgg3
  z3:=Tryz.sizeOf3
  v3:=Tryz.zeroValue3
  t4:=Tryz.underlying4
  a4:=Tryz.isAgg4
  z4:=Tryz.sizeOf4
  v4:=Tryz.zeroValue4
  t5:=Tryz.underlying5
  a5:=Tryz.isAgg5
  z5:=Tryz.sizeOf5
  v5:=Tryz.zeroValue5
  t9:=Tryz.underlying9
  a9:=Tryz.isAgg9
  z9:=Tryz.sizeOf9
  v9:=Tryz.zeroValue9
  t21:=Tryz.underlying21
  a21:=Tryz.isAgg21
  z21:=Tryz.sizeOf21
  v21:=Tryz.zeroValue21
  t46:=Tryz.underlying91
  a46:=Tryz.isAgg91
  z46:=Tryz.sizeOf91
  v46:=Tryz.zeroValue91
  t105:=Tryz.underlying119
  a105:=Tryz.isAgg119
  z105:=Tryz.sizeOf119
  v105:=Tryz.zeroValue119
  t116:=Tryz.underlying97
  a116:=Tryz.isAgg97
  z116:=Tryz.sizeOf97
  t117:=Tryz.underlying98
  a117:=Tryz.isAgg98
  z117:=Tryz.sizeOf98
  v117:=Tryz.zeroValue98
  t119:=Tryz.underlying138
  a119:=Tryz.isAgg138
  z119:=Tryz.sizeOf138
  t124:=Tryz.underlying101
  a124:=Tryz.isAgg101
  z124:=Tryz.sizeOf101
  v124:=Tryz.zeroValue101
  t138:=Tryz.underlying140
  a138:=Tryz.isAgg140
  z138:=Tryz.sizeOf140
  v138:=Tryz.zeroValue140
  t139:=Tryz.underlying141
  a139:=Tryz.isAgg141
  z139:=Tryz.sizeOf141
  v139:=Tryz.zeroValue141
  g3:=by kernel_rfl
  g4:=by kernel_rfl }
end Go.Proofs
namespace Go.Proofs.YtadpmgdmiaoniaaGreatDoor.Q
open Go.RowKit Go.Shelf Go.Proofs.YtadpmgdmiaoniaaGreatDoorW.PrintWords Go.Proofs.YtadpmgdmiaoniaaGreatDoorW.PrintLast Go.Proofs.YtadpmgdmiaoniaaGreatDoorW.PrintMore
set_option linter.unusedVariables false
def abcW:ByteArray:=⟨#[97,98,99,100,101,102,103,104,105,106,107,108,109,110,111,112,113,114,115,116,117,118,119,120,121,122]⟩
def lettersB (w:ByteArray):Bool:=w.data.toList.all fun x=>decide (97≤x.toNat∧x.toNat≤122)
theorem abc_mem (x:UInt8):abcW.data.toList.contains x=decide (97≤x.toNat∧x.toNat≤122):=by
 have h:∀ n:Nat,n<256→abcW.data.toList.contains (UInt8.ofNat n)=decide (97≤n∧n≤122):=by decide +kernel
 have:=h x.toNat x.toNat_lt
 rwa [UInt8.ofNat_toNat] at this
theorem dropWhile_nil {α:Type} (p:α→Bool):∀ l:List α,l.dropWhile p=[] ↔ ∀ x ∈ l,p x=true
 | []=>by simp
 | a :: l=>by
  rw [List.dropWhile_cons]
  split
  ·rename_i h
   rw [dropWhile_nil p l]
   simp [h]
  ·rename_i h
   simp [h]
theorem trimS_nil (l cs:List UInt8):Lib.trimS l cs=[] ↔ ∀ x ∈ l,cs.contains x=true:=by
 unfold Lib.trimS Lib.trimLeftS Lib.trimRightS
 rw [dropWhile_nil]
 constructor
 ·intro h
  have h2:l.reverse.dropWhile (cs.contains ·)=[]:=by
   cases hq:l.reverse.dropWhile (cs.contains ·) with
   | nil=>rfl
   | cons a r =>
    exfalso
    rw [hq] at h
    have h3:cs.contains a=true:=h a (by simp)
    have h4:=List.head?_dropWhile_not (p:=(cs.contains ·)) l.reverse
    rw [hq] at h4
    simp only [List.head?_cons] at h4
    rw [h3] at h4
    cases h4
  intro x hx
  exact (dropWhile_nil _ _).1 h2 x (List.mem_reverse.2 hx)
 ·intro h x hx
  have hx2:=(List.dropWhile_sublist _).subset (List.mem_reverse.1 hx)
  exact h x (List.mem_reverse.1 hx2)
theorem trim_letters (w:ByteArray):decide (Lib.trimS w.data.toList abcW.data.toList=[])=lettersB w:=by
 rw [Bool.eq_iff_iff,decide_eq_true_eq,trimS_nil]
 unfold lettersB
 rw [List.all_eq_true]
 exact forall_congr' fun x=>imp_congr Iff.rfl (by rw [abc_mem])
theorem trim_empty (w:ByteArray):(Lib.trimS w.data.toList abcW.data.toList).isEmpty=lettersB w:=by
 rw [← trim_letters]
 cases Lib.trimS w.data.toList abcW.data.toList <;> simp
def impl_areLetters.f (a0:ByteArray):Option Bool:=if a0.size≤9223372036854775807 then some (lettersB a0) else none
set_option maxHeartbeats 1000000 in
theorem impl_areLetters.calls (a0:ByteArray) (r:Bool) (w:World) (h:impl_areLetters.f a0=some r) :
  Calls Tryz.prog 45 #[.string a0] w fun e w'=>e=.returned (.bool r)∧Below w.heap.size w w':=by
 unfold impl_areLetters.f at h
 split at h
 case isFalse=>cases h
 rename_i hs
 obtain rfl:=Option.some.inj h
 clear h
 have hT:=Any.strings_Trim_laid Tryz.lTrim (by kernel_rfl) a0 abcW w hs (by decide) (ascii_of_all (by decide))
 have HT:=Zz.mk hT
 have HL:=Zz.mk (trim_empty a0)
 obtain ⟨t,ht⟩:∃ t,t=Lib.trimS a0.data.toList abcW.data.toList:=⟨_,rfl⟩
 have HE:=Zz.mk ht
 clear hT ht
 unfold abcW at HT
 go_enter Tryz.func45,Tryz.ntmps45
 go_wp2_with (go_at_call 56;refine HT.out.mono ?_;rintro e w' ⟨rfl,hb⟩;have HB:=Zz.mk hb;clear hb)
 go_ret
 exact ⟨congrArg (fun b=>Ending.returned (.bool b)) HL.out,HB.out⟩
end Go.Proofs.YtadpmgdmiaoniaaGreatDoor.Q
namespace Go.Proofs.YtadpmgdmiaoniaaGreatDoor.Q
open Go.RowKit Go.Sort Go.Proofs.YtadpmgdmiaoniaaGreatDoorW.PrintWords Go.Proofs.YtadpmgdmiaoniaaGreatDoorW.PrintLast Go.Proofs.YtadpmgdmiaoniaaGreatDoorW.PrintMore
set_option linter.unusedVariables false
theorem reps_scalar {α:Type} (enc:α→Value) (h1:∀ x,(enc x).oneCell'=true) (ps:List α):Reps (fun x cs=>cs=[enc x]) 1 ps (ps.map enc):=by
 refine ⟨by simp,fun j p h=>?_⟩
 obtain ⟨hj,rfl⟩:=List.getElem?_eq_some_iff.1 h
 apply List.ext_getElem
 ·simp;omega
 ·intro i h1 h2
  simp at h1
  have:i=0:=by omega
  subst this
  simp
theorem R_of_owns {w:World} {e base:Nat} {ok:Nat→Prop} {v:Value} {xs:List ByteArray} (h:w.ownsRow base e 1 v xs.length (xs.map Value.string)) (hok:∀ k,v.ownBlock=some k→ok k):Kd.R Kd.string e w base ok v xs :=
 ⟨hok,_,h,reps_scalar Value.string (fun _=>rfl) xs⟩
end Go.Proofs.YtadpmgdmiaoniaaGreatDoor.Q
namespace Go.Proofs.YtadpmgdmiaoniaaGreatDoor.Q
open Go.RowKit Go.Shelf Go.Sort Go.Proofs.YtadpmgdmiaoniaaGreatDoorW.PrintWords Go.Proofs.YtadpmgdmiaoniaaGreatDoorW.PrintLast Go.Proofs.YtadpmgdmiaoniaaGreatDoorW.PrintMore
set_option linter.unusedVariables false
attribute [local go_sem] Oper.semAt_some
theorem take_rd (zs:List ByteArray) (k:Nat) (h:k<zs.length):zs.take (k+1)=zs.take k ++ [rdOf ByteArray.empty zs (k:Int)]:=by
 rw [List.take_succ_eq_append_getElem h]
 simp [rdOf,h]
set_option maxRecDepth 100000 in
set_option maxHeartbeats 2000000 in
theorem values1_in (F:Fence) (n:Nat) (hf:F.fn 116) (hro:F.round=none) (hn:1≤n) (l Bs n₀ cap:Nat) (A:Option Addr) (zs:List ByteArray) (hreach:zs.length≤4398046511104) (J Jx:List ByteArray→World→Prop)
  (hY:∀ pre x W,J pre W→pre.length<zs.length→YieldAt F (n - 1) Tryz.prog l #[.string x] W fun e W' =>
   (e=.returned (.bool true)∧J (pre ++ [x]) W'∧Below n₀ W W')∨(e=.returned (.bool false)∧Jx (pre ++ [x]) W'))
  (W:World) (hBs:W.cell? ⟨Bs,0,none⟩=some (.slice A zs.length cap)) (hc:∀ W',Below n₀ W W'→Kd.C Kd.string W' A zs.length zs) (h0:J [] W) :
  CallsIn F n Tryz.prog 116 #[.func (.yield l) #[] #[],.pointer (some ⟨Bs,0,none⟩)] W fun e W'=>(∃ v,e=.returned v) ∧
   ((∃ ys,ys=zs∧J ys W')∨(∃ pre,pre <+: zs∧Jx pre W')):=by
 have HC:Zz (∀ W',Below n₀ W W'→Kd.C Kd.string W' A zs.length zs):=⟨hc⟩
 have HY:Zz (∀ pre x W,J pre W→pre.length<zs.length→YieldAt F (n - 1) Tryz.prog l #[.string x] W fun e W' =>
   (e=.returned (.bool true)∧J (pre ++ [x]) W'∧Below n₀ W W')∨(e=.returned (.bool false)∧Jx (pre ++ [x]) W')):=⟨hY⟩
 clear hc hY
 refine callsIn_of_wp Tryz.func116 rfl hf ?_ hro
 simp only [Tryz.ntmps116,List.size_toArray,List.length_cons,List.length_nil,Nat.reduceAdd,Nat.reduceSub,Array.replicate_succ,Array.replicate_zero,List.push_toArray,List.append_toArray,List.nil_append,List.cons_append]
 gi_wp2
 gi_loopw [7] (fun i wr=>∃ k:Nat,k≤zs.length∧i=.int .i64 k∧J (zs.take k) wr∧Below n₀ W wr)
  (fun i _=>zs.length - (intOf i).toNat)
 case atStart=>exact ⟨0,Nat.zero_le _,rfl,h0,Below.refl _ _⟩
 case round =>
  obtain ⟨k,hk,rfl,hJs,hnx⟩:=hrel
  by_cases hlt:k<zs.length
  ·obtain ⟨ad,e0,hx⟩:=Kd.at_string (HC.out wr hnx) (k:Int) (by omega) (by omega)
   cases e0
   simp only [Int.toNat_natCast] at hx
   obtain ⟨fn,tmps,assign,body,hy,hR⟩:=HY.out _ (rdOf ByteArray.empty zs (k:Int)) wr hJs (by rw [List.length_take];omega)
   gi_wp2
   refine hR.mono ?_
   rintro e W3 (⟨rfl,hJ3,hk3⟩|⟨rfl,hJx3⟩)
   ·gi_wp2
    go_roundw
    case rel=>exact ⟨k+1,by omega,by simp,by rw [take_rd zs k hlt];exact hJ3,hnx.trans hk3⟩
    case measure=>simp [intOf];omega
   ·gi_wp2
    refine bodyPost_ret (results_none rfl _ _ _) rfl ?_
    exact ⟨⟨_,rfl⟩,.inr ⟨_,by rw [← take_rd zs k hlt];exact List.take_prefix _ _,hJx3⟩⟩
  ·obtain rfl:k=zs.length:=by omega
   gi_wp2
   go_end0
   exact ⟨⟨_,rfl⟩,.inl ⟨_,List.take_length,hJs⟩⟩
theorem values_stops (F:Fence) (n:Nat) (hf:F.fn 116) (hro:F.round=none) (hn:1≤n) (Bs n₀ cap:Nat) (A:Option Addr) (zs:List ByteArray) (hreach:zs.length≤4398046511104) (w:World) (hBs:Bs<w.heap.size) (hn₀:n₀≤w.heap.size)
  (hc:w.cell? ⟨Bs,0,none⟩=some (.slice A zs.length cap)) (hI:∀ W',Below n₀ w W'→Kd.C Kd.string W' A zs.length zs) :
  SeqStopsK F n Tryz.prog 116 #[.pointer (some ⟨Bs,0,none⟩)] (fun x:ByteArray=>#[Value.string x]) (Below n₀) (fun ys=>ys=zs) (fun pre=>pre <+: zs) zs.length w:=fun l J Jx W hW _ _ hY h0=>by
 refine (values1_in F n hf hro hn l Bs n₀ cap A zs hreach J Jx hY W ((hW.cell (p:=⟨Bs,0,none⟩) hBs).trans hc) (fun W' hW'=>hI W' ((hW.mono hn₀).trans hW')) h0).mono ?_
 rintro e W' ⟨he,⟨ys,rfl,hj⟩|⟨pre,hp,hj⟩⟩
 ·exact ⟨he,.inl ⟨_,rfl,hj⟩⟩
 ·exact ⟨he,.inr ⟨_,hp,hj⟩⟩
theorem infoS:(Tryz.prog.info? 9).map (fun i=>(i.zero,i.size,i.bytes))=some (some (.string ⟨#[]⟩),1,16):=by kernel_rfl
set_option maxRecDepth 100000 in
set_option maxHeartbeats 2000000 in
theorem appendSeq_in (F:Fence) (n:Nat) (hf:F.fn 122) (hv:F.fn 116) (hro:F.round=none) (hn:3≤n) (Bs cap:Nat) (A:Option Addr) (zs:List ByteArray) (hreach:zs.length≤4398046511104) (w:World)
  (hc:w.cell? ⟨Bs,0,none⟩=some (.slice A zs.length cap)) (hC:Kd.C Kd.string w A zs.length zs) :
  CallsIn F n Tryz.prog 122 #[.slice none 0 0,.func (.func 116) #[] #[.pointer (some ⟨Bs,0,none⟩)]] w fun e W'=>∃ v,e=.returned v∧W'.ownsRow w.heap.size 9 1 v zs.length (zs.map Value.string)∧Below w.heap.size w W':=by
 have h1:1≤n:=by omega
 obtain ⟨i0,hi,hz0,hz1,hz2⟩:=info_parts infoS
 have hBl:Bs<w.heap.size:=World.block_lt_of_cell? w _ hc
 refine callsIn_of_wp_marks Tryz.func122 rfl hf ?_ hro
 simp only [Tryz.ntmps122,List.size_toArray,List.length_cons,List.length_nil,Nat.reduceAdd,Nat.reduceSub,Array.replicate_succ,Array.replicate_zero,List.push_toArray,List.append_toArray,List.nil_append,List.cons_append]
 gi_wp2
 have bO:=Boxed.new w 43 (.slice none 0 0)
 have hB0:Below w.heap.size w (w.alloc (.cells #[.slice none 0 0] 43)):=(Below.refl _ w).alloc (Nat.le_refl _) _
 refine wpIn_rangeFunc_ownG hro h1 (gf:=116) (lb:=#[.pointer (some ⟨Bs,0,none⟩)]) rfl hv (enters_of Tryz.func116 (by kernel_rfl) rfl)
  (values_stops F (n - 1) hv hro (by omega) Bs w.heap.size cap A zs hreach _ (by simp;omega) (by simp) ((hB0.cell (p:=⟨Bs,0,none⟩) hBl).trans hc) (fun W' hW'=>Kd.C_below hC (hB0.trans hW'))) belowK_t (belowK_b (by simp)) (Below.refl _ _) (fun _=>rfl)
  (fun pre W=>(∃ v,Boxed W w.heap.size 43 v∧W.ownsRow w.heap.size 9 1 v pre.length (pre.map Value.string)∧True)∧Below w.heap.size w W)
  (fun _ _ _=>False)
  (OwnFrom.and (Own.from (holdsRow_own w.heap.size w.heap.size 43 9 1 (fun pre:List ByteArray=>pre.length) (fun pre=>pre.map Value.string) (fun _ _=>True)) _) (ownFrom_below (Nat.le_refl _) (by simp)))
  (fun _ _ _ _ _ hs _ _=>hs)
  ⟨⟨_,bO,World.ownsRow_nil _ _ _ _,trivial⟩,hB0⟩
  (fun x=>{ tmps:=#[.slice none 0 0,.func (.func 116) #[] #[.pointer (some ⟨Bs,0,none⟩)],.pointer (some ⟨w.heap.size,0,none⟩),undef,.slice none 0 0,.string x,.func (.func 116) #[] #[.pointer (some ⟨Bs,0,none⟩)],.string x,undef,undef,undef,undef,undef],defers:=[] }) ?assign ?body ?done ?stop
 case assign =>
  intro l x W K hK
  gi_wp2
  exact hK
 case body =>
  rintro l pre x W ⟨⟨v,hv,hrow,_⟩,hB⟩ hlt
  have hc:=hv.cell
  gi_wp2_with (gi_at_builtin;refine wpListIn_append_own _ rfl _ _ 43 rfl w.heap.size 9 i0 (.string ⟨#[]⟩) 1 16 Tryz.underlying43 hi hz0 hz1 hz2 rfl (by decide) _ _ _ rfl (hrow.alloc _) ⟨W.heap.size,0,none⟩ 1 1 [.string x] rfl rfl (cell_one_new _ _ _) (by simp [Value.oneCell']) (by unfold maxLen;omega) (by omega) (by have:=hB.size;simp;omega) ?_;intro v' w1 hown' hgrow _;obtain ⟨g',cap',rfl⟩:=ownsRow_succ hown';obtain ⟨hv1,hv2,hr2,hk2,hb2⟩:=hv.appended (by decide) hrow hB.size (Nat.le_refl _) hown' hgrow;have hc1:=hv1.cell;have hf1:=hv1.frozen)
  exact ⟨hk2.from _,hb2,⟨_,hv2,by simpa using hr2,trivial⟩,hB.trans hb2⟩
 case done =>
  rintro D ys W hD rfl ⟨⟨v,hv,hrow,_⟩,hB⟩ hK
  have hc:=hv.cell
  gi_wp2
  refine ⟨by simp,.inl ⟨_,_,rfl,run_takeDeferred hK,?_⟩⟩
  exact ⟨_,results_tmp rfl _ _ _,v,rfl,ownsRow_putObj hrow _ hK rfl,hB.trans (belowK_b (w:=w) (Nat.le_refl _) W D _ _ (by simp at hD;omega) hK rfl rfl)⟩
 case stop =>
  rintro D c pre W _ _ h _
  exact h.elim
end Go.Proofs.YtadpmgdmiaoniaaGreatDoor.Q
namespace Go.Proofs
open Go.Shelf
def Tryz.lSort_ren:Go.Shelf.Ren:=⟨fun|190=>115|125=>65|258=>123|128=>92|129=>93|302=>125|303=>126|304=>127|305=>128|306=>129|307=>130|308=>80|309=>131|310=>132|333=>134|329=>106|330=>107|334=>135|335=>136|336=>100|344=>137|n=>n,fun|31=>43|9=>9|3=>3|46=>91|0=>0|51=>115|53=>117|4=>4|183=>109|182=>108|131=>105|5=>5|218=>126|222=>130|228=>135|229=>136|n=>n,fun|n=>n⟩
theorem Tryz.lSort:Go.Proofs.Lays.n190 Tryz.prog Tryz.lSort_ren:={
  mixed:=by kernel_rfl
  f125:=Tryz.func65.trans (congrArg some (by kernel_rfl))
  f128:=Tryz.func92.trans (congrArg some (by kernel_rfl))
  f129:=Tryz.func93.trans (congrArg some (by kernel_rfl))
  f190:=Tryz.func115.trans (congrArg some (by kernel_rfl))
  f258:=Tryz.func123.trans (congrArg some (by kernel_rfl))
  f302:=Tryz.func125.trans (congrArg some (by kernel_rfl))
  f303:=Tryz.func126.trans (congrArg some (by kernel_rfl))
  f304:=Tryz.func127.trans (congrArg some (by kernel_rfl))
  f305:=Tryz.func128.trans (congrArg some (by kernel_rfl))
  f306:=Tryz.func129.trans (congrArg some (by kernel_rfl))
  f307:=Tryz.func130.trans (congrArg some (by kernel_rfl))
  f308:=Tryz.func80.trans (congrArg some (by kernel_rfl))
  f309:=Tryz.func131.trans (congrArg some (by kernel_rfl))
  f310:=Tryz.func132.trans (congrArg some (by kernel_rfl))
  f329:=Tryz.func106.trans (congrArg some (by kernel_rfl))
  f330:=Tryz.func107.trans (congrArg some (by kernel_rfl))
  f333:=Tryz.func134.trans (congrArg some (by kernel_rfl))
  f334:=Tryz.func135.trans (congrArg some (by kernel_rfl))
  f335:=Tryz.func136.trans (congrArg some (by kernel_rfl))
  f336:=Tryz.func100.trans (congrArg some (by kernel_rfl))
  f344:=Tryz.func137.trans (congrArg some (by kernel_rfl))
  t0:=Tryz.underlying0
  a0:=Tryz.isAgg0
  z0:=Tryz.sizeOf0
  v0:=Tryz.zeroValue0
  t3:=Tryz.underlying3
  a3:=Tryz.isAgg3
  z3:=Tryz.sizeOf3
  v3:=Tryz.zeroValue3
  t4:=Tryz.underlying4
  a4:=Tryz.isAgg4
  z4:=Tryz.sizeOf4
  v4:=Tryz.zeroValue4
  t5:=Tryz.underlying5
  a5:=Tryz.isAgg5
  z5:=Tryz.sizeOf5
  v5:=Tryz.zeroValue5
  t9:=Tryz.underlying9
  a9:=Tryz.isAgg9
  z9:=Tryz.sizeOf9
  v9:=Tryz.zeroValue9
  t31:=Tryz.underlying43
  a31:=Tryz.isAgg43
  z31:=Tryz.sizeOf43
  v31:=Tryz.zeroValue43
  t46:=Tryz.underlying91
  a46:=Tryz.isAgg91
  z46:=Tryz.sizeOf91
  v46:=Tryz.zeroValue91
  t51:=Tryz.underlying115
  a51:=Tryz.isAgg115
  z51:=Tryz.sizeOf115
  v51:=Tryz.zeroValue115
  t53:=Tryz.underlying117
  a53:=Tryz.isAgg117
  z53:=Tryz.sizeOf117
  v53:=Tryz.zeroValue117
  t131:=Tryz.underlying105
  a131:=Tryz.isAgg105
  z131:=Tryz.sizeOf105
  v131:=Tryz.zeroValue105
  t182:=Tryz.underlying108
  a182:=Tryz.isAgg108
  z182:=Tryz.sizeOf108
  v182:=Tryz.zeroValue108
  t183:=Tryz.underlying109
  a183:=Tryz.isAgg109
  z183:=Tryz.sizeOf109
  v183:=Tryz.zeroValue109
  t218:=Tryz.underlying126
  a218:=Tryz.isAgg126
  z218:=Tryz.sizeOf126
  v218:=Tryz.zeroValue126
  t222:=Tryz.underlying130
  a222:=Tryz.isAgg130
  z222:=Tryz.sizeOf130
  v222:=Tryz.zeroValue130
  t228:=Tryz.underlying135
  a228:=Tryz.isAgg135
  z228:=Tryz.sizeOf135
  v228:=Tryz.zeroValue135
  t229:=Tryz.underlying136
  a229:=Tryz.isAgg136
  z229:=Tryz.sizeOf136
  v229:=Tryz.zeroValue136 }
def Tryz.lCompact_ren:Go.Shelf.Ren:=⟨fun|194=>101|n=>n,fun|31=>43|9=>9|3=>3|4=>4|0=>0|n=>n,fun|n=>n⟩
theorem Tryz.lCompact:Go.Proofs.Lays.n194 Tryz.prog Tryz.lCompact_ren:={
  mixed:=by kernel_rfl
  f194:=Tryz.func101.trans (congrArg some (by kernel_rfl))
  t0:=Tryz.underlying0
  a0:=Tryz.isAgg0
  z0:=Tryz.sizeOf0
  v0:=Tryz.zeroValue0
  t3:=Tryz.underlying3
  a3:=Tryz.isAgg3
  z3:=Tryz.sizeOf3
  v3:=Tryz.zeroValue3
  t4:=Tryz.underlying4
  a4:=Tryz.isAgg4
  z4:=Tryz.sizeOf4
  v4:=Tryz.zeroValue4
  t9:=Tryz.underlying9
  a9:=Tryz.isAgg9
  z9:=Tryz.sizeOf9
  v9:=Tryz.zeroValue9
  t31:=Tryz.underlying43
  a31:=Tryz.isAgg43
  z31:=Tryz.sizeOf43
  v31:=Tryz.zeroValue43 }
end Go.Proofs
namespace Go.Proofs.YtadpmgdmiaoniaaGreatDoor.Q
open Go.RowKit Go.Shelf Go.Sort Go.Proofs.YtadpmgdmiaoniaaGreatDoorW.PrintWords Go.Proofs.YtadpmgdmiaoniaaGreatDoorW.PrintLast Go.Proofs.YtadpmgdmiaoniaaGreatDoorW.PrintMore
set_option linter.unusedVariables false
theorem enc_lw (b:ByteArray):encStr (lw b)=.string b:=rfl
theorem enc_pw (l:List UInt8):Value.string (pw l)=encStr l:=rfl
theorem map_enc (zs:List ByteArray):zs.map Value.string=(zs.map lw).map encStr:=by simp [List.map_map,Function.comp_def,enc_lw]
theorem map_pw (ls:List (List UInt8)):(ls.map pw).map Value.string=ls.map encStr:=by simp [List.map_map,Function.comp_def,enc_pw]
theorem values_calls (A:Option Addr) (n c:Nat) (w:World) :
  Calls Tryz.prog 103 #[.slice A n c] w fun e w'=>e=.returned (.func (.func 116) #[] #[.pointer (some ⟨w.heap.size,0,none⟩)])∧w'=w.alloc (.cells #[.slice A n c] 43):=by
 go_enter Tryz.func103,Tryz.ntmps103
 go_wp2
 go_ret
 exact ⟨rfl,rfl⟩
def srt (zs:List ByteArray):List (List UInt8):=(zs.map lw).mergeSort fun x y=>decide (x≤y)
theorem srt_length (zs:List ByteArray):(srt zs).length=zs.length:=by simp [srt,List.length_mergeSort]
theorem sort_own (base:Nat) (v:Value) (zs:List ByteArray) (w:World) (h:w.ownsRow base 9 1 v zs.length (zs.map Value.string)) (hn:zs.length<4611686018427387904) :
  Calls Tryz.prog 115 #[v] w fun e w'=>e=.returned (.tuple #[])∧w'.ownsRow base 9 1 v (srt zs).length ((srt zs).map encStr)∧Below base w w':=by
 by_cases hv:v=.slice none 0 0
 ·subst hv
  have hz:zs=[]:=by
   rcases h.2 with ⟨_,h0⟩|⟨g,cap,cur,e0,_⟩
   ·exact List.eq_nil_of_length_eq_zero h0
   ·cases e0
  subst hz
  refine (Any.slices_Sort_string_none Tryz.lSort none 0 w).mono ?_
  rintro e w' ⟨rfl,rfl⟩
  exact ⟨rfl,by simpa [srt] using h,Below.refl _ _⟩
 ·have h':=h
  rw [map_enc] at h
  obtain ⟨g,cap,rfl,hbg,hgl,hncap,hcm,hlen,hH⟩:=Lib.holds_of_ownsRow h hv
  have hs:=Any.slices_Sort_string Tryz.lSort g 0 cap (zs.map lw) w hH hgl (by simpa using hn)
  rw [List.length_map] at hs
  refine hs.mono ?_
  rintro e w' ⟨rfl,n,os,rfl⟩
  rcases h.2 with ⟨e0,_⟩|⟨g',cap',cur,e0,hbase,hb,h1,h2,h3,h4⟩
  ·cases e0
  ·cases e0
   have:=ownsRow_sorted (n:=n) (os:=os) (ts:=srt zs) (ss:=zs.map lw) (by simp [srt_length]) hbase hb (by simpa using h1) h2 h3
   rw [List.length_map] at this
   exact ⟨rfl,by rw [srt_length];exact this,(Below.refl _ _).grown (grownBy_sorted _) (by omega) (fun j hj=>by cases hj;exact hbase)⟩
theorem compact_own (base:Nat) (v:Value) (ls:List (List UInt8)) (w:World) (h:w.ownsRow base 9 1 v ls.length (ls.map encStr)) (hn:ls.length<4611686018427387904) :
  Calls Tryz.prog 101 #[v] w fun e w'=>∃ v',e=.returned v'∧w'.ownsRow base 9 1 v' (Lib.compact ls).length ((Lib.compact ls).map encStr)∧Below base w w':=by
 by_cases hv:v=.slice none 0 0
 ·subst hv
  have hz:ls=[]:=by
   rcases h.2 with ⟨_,h0⟩|⟨g,cap,cur,e0,_⟩
   ·exact List.eq_nil_of_length_eq_zero h0
   ·cases e0
  subst hz
  refine (Any.slices_Compact_string_empty Tryz.lCompact none 0 w).mono ?_
  rintro e w' ⟨rfl,rfl⟩
  exact ⟨_,rfl,h,Below.refl _ _⟩
 ·obtain ⟨g,cap,rfl,hbg,hgl,hncap,hcm,hlen,hH⟩:=Lib.holds_of_ownsRow h hv
  refine (Any.slices_Compact_string Tryz.lCompact g 0 cap ls w hH (by omega) hncap).mono ?_
  rintro e w' ⟨rfl,q,rfl⟩
  have hle:=Lib.compact_length_le ls
  have hc2:=Lib.ownsRow_putRow (q:=q) (k:=(Lib.compact ls).length) (ys:=Lib.compact ls ++ List.replicate (ls.length - (Lib.compact ls).length) []) h (by simp;omega) hle
  rw [List.take_left] at hc2
  exact ⟨_,rfl,hc2,Lib.below_putRow (Below.refl _ _) hbg⟩
def Left (w:World) (ls:List (List UInt8)) (e:Ending) (w':World):Prop:=∃ v,e=.returned v∧w'.ownsRow w.heap.size 9 1 v ls.length (ls.map encStr)∧Below w.heap.size w w'
set_option maxHeartbeats 1000000 in
theorem sorted_calls (Bs cap:Nat) (A:Option Addr) (zs:List ByteArray) (hreach:zs.length≤4398046511104) (w:World)
  (hc:w.cell? ⟨Bs,0,none⟩=some (.slice A zs.length cap)) (hC:Kd.C Kd.string w A zs.length zs) :
  Calls Tryz.prog 102 #[.func (.func 116) #[] #[.pointer (some ⟨Bs,0,none⟩)]] w (Left w (srt zs)):=by
 have hA:=callsIn_wide.1 (appendSeq_in Fence.wide 3 trivial trivial rfl (by omega) Bs cap A zs hreach w hc hC)
 have hcol:Calls Tryz.prog 114 #[.func (.func 116) #[] #[.pointer (some ⟨Bs,0,none⟩)]] w fun e W'=>∃ v,e=.returned v∧W'.ownsRow w.heap.size 9 1 v zs.length (zs.map Value.string)∧Below w.heap.size w W':=by
  go_enter Tryz.func114,Tryz.ntmps114
  go_wp2_with (go_at_call 122;refine hA.mono ?_;rintro e w' ⟨v,rfl,hr,hb⟩)
  go_ret
  exact ⟨v,rfl,hr,hb⟩
 clear hA hc hC
 go_enter Tryz.func102,Tryz.ntmps102
 go_wp2_with (first
  | (go_at_call 114;refine hcol.mono ?_;rintro e w1 ⟨v,rfl,hr,hb⟩;have HR:=Zz.mk hr;have HB:=Zz.mk hb;clear hr hb)
  | (go_at_call 115;refine (sort_own _ v zs _ HR.out (by omega)).mono ?_;rintro e w2 ⟨rfl,hr2,hb2⟩;have HR2:=Zz.mk hr2;have HB2:=Zz.mk hb2;clear hr2 hb2))
 go_ret
 exact ⟨v,rfl,HR2.out,HB.out.trans HB2.out⟩
def impl_set.f (l0:List ByteArray):Option (List ByteArray):=if l0.length≤4398046511104 then some (setW l0) else none
set_option maxHeartbeats 1000000 in
theorem impl_set.calls (A0:Option Addr) (c0:Nat) (l0:List ByteArray) (r:List ByteArray) (w:World) (hr0:Kd.C Kd.string w A0 l0.length l0) (hc0:l0.length≤c0) (h:impl_set.f l0=some r) :
  Calls Tryz.prog 81 #[.slice A0 l0.length c0] w fun e w'=>∃ v0_:Value,e=.returned (v0_)∧Kd.R Kd.string 9 w' w.heap.size (fun _=>True) v0_ r∧Below w.heap.size w w':=by
 unfold impl_set.f at h
 split at h
 case isFalse=>cases h
 rename_i hn
 obtain rfl:=Option.some.inj h
 clear h
 have hB:Below w.heap.size w (w.alloc (.cells #[.slice A0 l0.length c0] 43)):=(Below.refl _ w).alloc (Nat.le_refl _) _
 have hS:=sorted_calls w.heap.size c0 A0 l0 hn (w.alloc (.cells #[.slice A0 l0.length c0] 43)) (by simp) (Kd.C_below hr0 hB)
 have HS:=Zz.mk hS
 have HB:=Zz.mk hB
 clear hS hB hr0
 go_enter Tryz.func81,Tryz.ntmps81
 go_wp2_with (first
  | (go_at_call 103;refine (values_calls _ _ _ _).mono ?_;rintro e w' ⟨rfl,rfl⟩)
  | (go_at_call 102;refine HS.out.mono ?_;rintro e w1 ⟨v,rfl,hr1,hb1⟩;have HR1:=Zz.mk hr1;have HB1:=Zz.mk hb1;clear hr1 hb1)
  | (go_at_call 101;refine (compact_own _ v (srt l0) _ HR1.out (by rw [srt_length];omega)).mono ?_;rintro e w2 ⟨v',rfl,hr2,hb2⟩;have HR2:=Zz.mk hr2;have HB2:=Zz.mk hb2;clear hr2 hb2))
 go_ret
 have hb1:=HB1.out
 have hb2:=HB2.out
 have hr2:=HR2.out
 rw [World.size_alloc] at hb1 hb2 hr2
 refine ⟨v',rfl,R_of_owns ?_ (fun _ _=>trivial),HB.out.trans ((hb1.trans hb2).mono (by omega))⟩
 have hm:(setW l0).map Value.string=(Lib.compact (srt l0)).map encStr:=map_pw _
 rw [hm]
 have hl:(setW l0).length=(Lib.compact (srt l0)).length:=by simp [setW,srt]
 rw [hl]
 exact own_weaken hr2 (by omega)
end Go.Proofs.YtadpmgdmiaoniaaGreatDoor.Q
namespace Go.Proofs.YtadpmgdmiaoniaaGreatDoor.Q
open Go.RowKit Go.Shelf Go.Sort Go.WideMaps Go.Proofs.YtadpmgdmiaoniaaGreatDoorW.PrintWords Go.Proofs.YtadpmgdmiaoniaaGreatDoorW.PrintLast Go.Proofs.YtadpmgdmiaoniaaGreatDoorW.PrintMore
set_option linter.unusedVariables false
attribute [local go_sem] isSome_setCell
theorem pfx_succ (w:ByteArray) (n:Nat):pfx w (n+1)=pfx w n ++ [w.extract 0 (n+1)]:=by simp [pfx,List.range_succ]
theorem pfx_length (w:ByteArray) (n:Nat):(pfx w n).length=n:=by simp [pfx]
theorem allPfx_take (l:List ByteArray) (k:Nat) (h:k<l.length):allPfx (l.take (k+1))=allPfx (l.take k) ++ pfx (rdOf ByteArray.empty l (k:Int)) (rdOf ByteArray.empty l (k:Int)).size:=by
 rw [take_rd l k h]
 simp [allPfx]
theorem allPfx_le (l:List ByteArray) (k:Nat):(allPfx (l.take k)).length≤(allPfx l).length:=by
 have:allPfx l=allPfx (l.take k) ++ (l.drop k).flatMap fun w=>pfx w w.size:=by
  simp only [allPfx,List.cons_append]
  rw [← List.flatMap_append,List.take_append_drop]
 rw [this];simp
theorem size_le_allPfx (l:List ByteArray) (k:Nat) (h:k<l.length):(allPfx (l.take k)).length+(rdOf ByteArray.empty l (k:Int)).size≤(allPfx l).length:=by
 have h1:=allPfx_le l (k+1)
 rw [allPfx_take l k h,List.length_append,pfx_length] at h1
 omega
theorem pref_size {l:List ByteArray} {p:ByteArray} (h:p ∈ prefW l):p.size≤(allPfx l).length:=by
 unfold prefW at h
 rw [mem_setW] at h
 rcases List.mem_cons.1 h with e|h
 ·subst e;exact Nat.zero_le _
 ·obtain ⟨w,hw,hp⟩:=List.mem_flatMap.1 h
  obtain ⟨k,hk,rfl⟩:=List.getElem_of_mem hw
  have hs:=size_le_allPfx l k hk
  have e:rdOf ByteArray.empty l (k:Int)=l[k]:=by simp [rdOf,hk]
  rw [e] at hs
  obtain ⟨j,hj,rfl⟩:=List.mem_map.1 hp
  rw [ByteArray.size_extract]
  omega
structure Rows (base:Nat) (w0 wr:World) (v:Value) (xs:List ByteArray):Prop where
 own:wr.ownsRow base 9 1 v xs.length (xs.map Value.string)
 below:Below base w0 wr
theorem Rows.snoc {base:Nat} {w0 wr w1:World} {v v':Value} {xs:List ByteArray} {x:ByteArray} {n:Nat} (h:Rows base w0 wr v xs) (hb:base≤w0.heap.size) (hn:n=xs.length) (ho:w1.ownsRow base 9 1 v' (n+1) (xs.map Value.string ++ [.string x]))
  (hg:(wr.alloc (.cells #[.string x] 9)).grownBy w1 v.ownBlock):Rows base w0 w1 v' (xs ++ [x]):=by
 subst hn
 exact ⟨by simpa using ho,(h.below.alloc (Nat.le_trans hb h.below.size) _).grown hg (by have:=h.below.size;simp;omega) (fun k e=>(h.own.lt k e).1)⟩
theorem wf_nat (k:Nat) (h:k≤4294967296):(Lit.int .i64 (k:Int)).wf=true:=by
 have h1:IntKind.i64.min=-9223372036854775808:=by decide
 simp [Lit.wf,h1]
 omega
theorem setW_len (l:List ByteArray):(setW l).length≤l.length:=by
 unfold setW
 rw [List.length_map]
 exact Nat.le_trans (Lib.compact_length_le _) (by rw [List.length_mergeSort,List.length_map];exact Nat.le_refl _)
theorem prefW_len (l:List ByteArray):(prefW l).length≤(allPfx l).length:=setW_len _
abbrev TD:=DataW Unit
structure Nodes (l0 ps:List ByteArray) (base:Nat) (wA wr:World) (k:Nat):Prop where
 below:Below base wA wr
 map:∃ D:TD,wr.ownsMap Tryz.prog 9 (plainElem Tryz.prog 3) base k D∧Maps.IsMap D∧∀ j,j<k→D.atKey (.string (lw (rdOf ByteArray.empty ps (j:Int)))) (.lit (.int .i64 0))=.lit (.int .i64 j)
 box:∃ vn,wr.heap[base+1]?=some (.cells #[vn] 31 (0,0))∧Kd.R k70 70 wr (base+2) (fun _=>True) vn ((ps.take k).map (nodeW ps l0))
theorem grown_drew {w w2 w3:World} {b:Option Nat} (hg:w.grownBy w2 b) (hd:Drawn0 w2 w3):w.grownBy w3 b:=by
 obtain ⟨n,rfl⟩:=hd.out
 exact ⟨hg.os,hg.tape,hg.output,hg.size,hg.block⟩
theorem map_drew {w2 w3:World} {P:Program} {k:TypeId} {R:Value→Option (TD × List MemPlace)} {b n:Nat} {D:TD} (h:w2.ownsMap P k R b n D) (hd:Drawn0 w2 w3):w3.ownsMap P k R b n D:=by
 obtain ⟨m,rfl⟩:=hd.out
 exact h
theorem lt_of_heap {w:World} {g:Nat} {o:Obj} (h:w.heap[g]?=some o):g<w.heap.size:=(Array.getElem?_eq_some_iff.1 h).1
theorem box_heap {w w3:World} {g b:Nat} {o:Obj} (h:w.heap[g]?=some o) (hg:w.grownBy w3 (some b)) (hne:g ≠ b):w3.heap[g]?=some o:=(hg.block g (lt_of_heap h) (fun e=>hne (by injection e))).trans h
theorem box_cell {w:World} {g:Nat} {v:Value} {t:Nat} (h:w.heap[g]?=some (.cells #[v] t (0,0))):w.cell? ⟨g,0,none⟩=some v:=by simp [World.cell?,h]
theorem box_frozen {w:World} {g:Nat} {v:Value} {t:Nat} (h:w.heap[g]?=some (.cells #[v] t (0,0))):w.frozen? ⟨g,0,none⟩=false:=by simp [World.frozen?,h]
theorem strKeyed:Maps.Keyed Tryz.prog 9:=Maps.string_keyed Tryz.underlying9
theorem zint (W:World):(zeroValue 3).run Tryz.prog W=.ok (.int .i64 0) W:=by kernel_rfl
theorem node_root {ps ws:List ByteArray} {p:ByteArray} (h:p.size=0):nodeW ps ws p=⟨-1,-1,hasW ws p⟩:=by simp [nodeW,h]
theorem letter_eq (p:ByteArray) (h:p.size - 1<p.size):IntKind.i64.wrap (IntKind.u8.wrap (((p[p.size - 1]'h).toNat:Int) - 97))=(bt p ((p.size:Int) - 1)+159) % 256:=by
 have e:((p.size:Int) - 1).toNat=p.size - 1:=by omega
 have hb:bt p ((p.size:Int) - 1)=((p[p.size - 1]'h).toNat:Int):=by simp [bt,e,h]
 have e1:∀ x:Int,IntKind.u8.wrap x=x % 256:=fun x=>rfl
 rw [hb,e1,i64_w]
 have:=(p[p.size - 1]'h).toNat_lt
 unfold wrap64
 omega
theorem ownsMap_block {w w':World} {P:Program} {k:TypeId} {R:Value→Option (TD × List MemPlace)} {b n:Nat} {D:TD} (h:w.ownsMap P k R b n D) (e:w'.heap[b]?=w.heap[b]?):w'.ownsMap P k R b n D:=by
 obtain ⟨es,clock,hb,r⟩:=h
 exact ⟨es,clock,by rw [e];exact hb,r⟩
theorem node_cell (w:World) (cs:Array Value) (j:Nat) {t:Nat} {v:Value} (h:cs[j]?=some v):((w.alloc (.cells cs t)).drew).cell? ⟨w.heap.size,j,none⟩=some v:=by
 have e:(w.alloc (.cells cs t)).drew.heap[w.heap.size]?=some (.cells cs t (0,0)):=World.alloc_heap_new w _
 unfold World.cell?
 simp only [e,h]
 rfl
theorem grown_alloc {w w3:World} {b:Option Nat} (h:w.grownBy w3 b) (o:Obj):w.grownBy (w3.alloc o).drew b :=
 ⟨h.os,h.tape,h.output,Nat.le_trans h.size (by simp),fun k hk hne=>(Below.heap_alloc w3 o k (Nat.lt_of_lt_of_le hk h.size)).trans (h.block k hk hne)⟩
theorem Nodes.next {l0 ps:List ByteArray} {base k n cn:Nat} {wA wr w3 wx:World} {D:TD} {Ax:Option Addr} {u:Value} {p:ByteArray} {x:S70} (hb:base≤wA.heap.size) (h:Below base wA wr) (hG:wr.grownBy w3 (some base))
  (hM:w3.ownsMap Tryz.prog 9 (plainElem Tryz.prog 3) base (k+1) (D.put (.string (lw p)) (.lit (.int .i64 k))))
  (hD:Maps.IsMap D∧∀ j,j<k→D.atKey (.string (lw (rdOf ByteArray.empty ps (j:Int)))) (.lit (.int .i64 0))=.lit (.int .i64 j))
  (hk:k<ps.length) (hp:p=rdOf ByteArray.empty ps (k:Int)) (hS:SS ps) (hB:Below (base+2) w3 wx)
  (hn:n=k+1) (hR:Kd.R k70 70 wx (base+2) (fun _=>True) (.slice Ax n cn) ((ps.take k).map (nodeW ps l0) ++ [x])) (hH:wx.heap[base+1]?=some (.cells #[u] 31 (0,0))) (hx:x=nodeW ps l0 p) :
  Nodes l0 ps base wA (wx.setCell ⟨base+1,0,none⟩ (.slice Ax (k+1) cn)) (k+1):=by
 subst hn
 refine ⟨?_,⟨_,(ownsMap_block hM (hB.block base (by omega))).setCell (by simp) _,hD.1.put _ _,fun j hj=>?_⟩,⟨_,blk_put hH 0 _ rfl,?_⟩⟩
 ·have h1:Below base wA w3:=h.grown hG (Nat.le_trans hb h.size) (fun k e=>by injection e with e;omega)
  exact (h1.trans (hB.mono (by omega))).setCell (by simp) _
 ·by_cases e:j=k
  ·subst e
   rw [← hp]
   exact Maps.atKey_put_same hD.1 (by simp [WideAt.IsKeyLit]) _ _
  ·rw [Maps.atKey_put_other (fun he=>?_)]
   ·exact hD.2 j (by omega)
   ·injection he with he
    have:=ss_at hS (show j<k by omega) hk
    rw [he,← hp] at this
    exact List.lt_irrefl _ this
 ·have e:(ps.take (k+1)).map (nodeW ps l0)=(ps.take k).map (nodeW ps l0) ++ [x]:=by
   rw [take_rd ps k hk,List.map_append,hx,hp];rfl
  rw [e]
  exact Kd.R_mono (Kd.R_move (Kd.R_bound hR) (fun g hg=>Below.heap_setCell _ _ _ _ (by simp;omega))) (fun _ hg=>hg.1)
theorem size0_of {p:ByteArray} (h:(!p.toList.isEmpty)=false):p.size=0:=by
 rw [Lib.toList_data] at h
 have h2:p.data.toList=[]:=by simpa using h
 have:=lw_length p
 unfold lw at this
 rw [h2] at this
 exact this.symm
theorem node_cut {l0:List ByteArray} {k:Nat} {D:TD} {p:ByteArray} {L c:Int} {b:Bool} (hk:k<(prefW l0).length) (hp:p=rdOf ByteArray.empty (prefW l0) (k:Int)) (h0:p.size ≠ 0)
  (hD:Maps.IsMap D∧∀ j,j<k→D.atKey (.string (lw (rdOf ByteArray.empty (prefW l0) (j:Int)))) (.lit (.int .i64 0))=.lit (.int .i64 j))
  (hc:(D.put (.string (lw p)) (.lit (.int .i64 k))).atKey (.string (lw (p.extract 0 (p.size - 1)))) (.lit (.int .i64 0))=.lit (.int .i64 c)) (hL:L=(bt p ((p.size:Int) - 1)+159) % 256) (hb:b=hasW l0 p) :
  (⟨L,c,b⟩:S70)=nodeW (prefW l0) l0 p:=by
 obtain ⟨j,hj,hje,hjf⟩:=cut_idx hk hp h0
 rw [Maps.atKey_put_other (fun he=>by injection he with he;exact absurd (he ▸ cut_lt p h0) (List.lt_irrefl _)),← hje,hD.2 j hj] at hc
 injection hc with hc
 injection hc with _ hc
 unfold nodeW
 rw [if_neg h0,hL,hb,hjf,hc]
set_option maxHeartbeats 2000000 in
set_option maxRecDepth 100000 in
theorem impl_trieOf_walk (A0:Option Addr) (c0:Nat) (l0:List ByteArray) (w:World) (hr0:Kd.C Kd.string w A0 l0.length l0) (hc0:l0.length≤c0) (hn:(allPfx l0).length≤1073741824) (hl:l0.length≤1073741824) (hs:SW l0) :
  Calls Tryz.prog 62 #[.slice A0 l0.length c0] w fun e w'=>∃ v0_:Value,e=.returned (.agg #[v0_])∧Kd.R k70 70 w' w.heap.size (fun _=>True) v0_ (trieW l0)∧Below w.heap.size w w':=by
 have hw0:Below w.heap.size w (w.alloc (.cells #[.slice none 0 0] 31)):=(Below.refl _ w).alloc (Nat.le_refl _) _
 have HR0:Zz (∀ W,Below (w.heap.size+1) (w.alloc (.cells #[.slice none 0 0] 31)) W→Kd.C Kd.string W A0 l0.length l0):=⟨fun W h=>Kd.C_below hr0 (hw0.trans (h.mono (by omega)))⟩
 clear hr0
 have HW0:=Zz.mk hw0
 clear hw0
 have HN:=Zz.mk hn
 clear hn
 have HS0:=Zz.mk hs
 clear hs
 obtain ⟨i9,hi9,hz90,hz91,hz92⟩:=info_parts infoS
 go_enter Tryz.func62,Tryz.ntmps62
 go_wp2
 go_loopw [3,17] (fun v i wr=>∃ k:Nat,k≤l0.length∧i=.int .i64 k∧Zz (Rows (w.heap.size+1) (w.alloc (.cells #[.slice none 0 0] 31)) wr v (allPfx (l0.take k))))
  (fun _ i _=>l0.length - (intOf i).toNat)
 case atStart =>
  refine ⟨0,Nat.zero_le _,rfl,⟨⟨?_,?_⟩⟩⟩
  ·refine ⟨rfl,.inr ⟨w.heap.size+1,1,#[.string ⟨#[]⟩],rfl,Nat.le_refl _,?_,Nat.le_refl _,by unfold maxLen;omega,rfl,rfl⟩⟩
   have:=World.alloc_heap_new (w.alloc (.cells #[.slice none 0 0] 31)) (.cells #[.string ⟨#[]⟩] 9)
   rwa [World.size_alloc] at this
  ·exact (Below.refl _ _).alloc (by simp) _
 case round =>
  obtain ⟨k,hk,rfl,HS⟩:=hrel
  by_cases hlt:k<l0.length
  ·obtain ⟨ad,e0,hx⟩:=Kd.at_string (HR0.out wr HS.out.below) (k:Int) (by omega) (by omega)
   cases e0
   simp only [Int.toNat_natCast] at hx
   go_wp2
   have hsz:=size_le_allPfx l0 k hlt
   obtain ⟨wd,hwd⟩:∃ wd,wd=rdOf ByteArray.empty l0 (k:Int):=⟨_,rfl⟩
   rw [← hwd] at hsz hx ⊢
   have hN:=HN.out
   have HWD:=Zz.mk hwd
   clear hwd
   obtain ⟨wo,rfl⟩:∃ wo:World,wo=wr:=⟨_,rfl⟩
   go_loopw [3,23] (fun v i wr=>∃ n:Nat,n≤wd.size∧i=.int .i64 n∧Zz (Rows (w.heap.size+1) (w.alloc (.cells #[.slice none 0 0] 31)) wr v (allPfx (l0.take k) ++ pfx wd n)))
    (fun _ i _=>wd.size - (intOf i).toNat)
   case atStart=>exact ⟨0,Nat.zero_le _,rfl,⟨by simpa [pfx] using HS.out⟩⟩
   case round =>
    obtain ⟨n,hn,rfl,HT⟩:=hrel
    by_cases hlt2:n<wd.size
    ·have hown:=HT.out.own
     have hbel:=HT.out.below
     have hsz2:=hbel.size
     rw [World.size_alloc] at hsz2
     rw [List.length_append,pfx_length] at hown
     have Hb:=Zz.mk hbel
     clear hbel
     go_wp2_with (at_builtin;refine wpList_append_own _ rfl _ _ 43 rfl (w.heap.size+1) 9 i9 (.string ⟨#[]⟩) 1 16 Tryz.underlying43 hi9 hz90 hz91 hz92 rfl (by decide) _ _ _ rfl (hown.alloc _) ⟨wr.heap.size,0,none⟩ 1 1 [.string (wd.extract 0 (n+1))] rfl rfl (cell_one_new _ _ _) (by simp [Value.oneCell']) (by unfold maxLen;omega) (by omega) (by simp;omega) ?_;intro v' w1 hown' hgrow _;have Hg:=Zz.mk hgrow;clear hgrow;have Ho:=Zz.mk hown';clear hown' hown)
     go_roundw
     case rel=>exact ⟨n+1,by omega,by go_num,⟨by rw [pfx_succ,← List.append_assoc];exact HT.out.snoc (by simp) (by rw [List.length_append,pfx_length]) Ho.out Hg.out⟩⟩
     case measure=>simp [intOf];omega
    ·obtain rfl:n=wd.size:=by omega
     go_wp2
     go_roundw
     case rel=>exact ⟨k+1,by omega,by go_num,⟨by rw [allPfx_take l0 k hlt,← HWD.out];exact HT.out⟩⟩
     case measure=>simp [intOf];omega
  ·obtain rfl:k=l0.length:=by omega
   rw [List.take_length] at HS
   have hRp:=R_of_owns (ok:=fun _=>True) HS.out.own (fun _ _=>trivial)
   obtain ⟨As,cs,rfl⟩:=Kd.R_slice hRp
   have hset:=impl_set.calls As cs (allPfx l0) (prefW l0) wr (Kd.R_reads' hRp).2.2 (Kd.R_reads' hRp).2.1 (by unfold impl_set.f;rw [if_pos (by have:=HN.out;omega)];rfl)
   have HSET:=Zz.mk hset
   clear hset hRp
   have hmm:=@run_makeMap Tryz.prog
   go_wp2_with (go_at_call 81;refine HSET.out.mono ?_;rintro e w1 ⟨v0,rfl,hR1,hb1⟩;obtain ⟨A1,c1,rfl⟩:=Kd.R_slice hR1;have HR1:=Zz.mk hR1;have HB1:=Zz.mk hb1;clear hR1 hb1)
   have HCW:Zz (∀ W,Below w1.heap.size w1 W→Kd.C Kd.string W A0 l0.length l0):=⟨fun W hW=>by
    have h1:=HS.out.below
    have h2:=HB1.out
    have h3:=h1.size
    have h4:=h2.size
    rw [World.size_alloc] at h3
    exact HR0.out W (h1.trans ((h2.trans (hW.mono h4)).mono h3))⟩
   have hHEAD:Zz (Nodes l0 (prefW l0) w1.heap.size w1 ((w1.alloc (.map #[] 0)).alloc (.cells #[.slice none 0 0] 31)) 0):=⟨⟨((Below.refl _ w1).alloc (Nat.le_refl _) _).alloc (by simp) _,
    ⟨_,(World.ownsMap_made _ _ _ _).alloc _,Maps.isMap_empty,fun j hj=>absurd hj (Nat.not_lt_zero _)⟩,
    ⟨_,by have:=World.alloc_heap_new (w1.alloc (.map #[] 0)) (.cells #[.slice none 0 0] 31);rwa [World.size_alloc] at this,Kd.R_nil _ _ _ _ _⟩⟩⟩
   go_loopw [41] (fun i wr=>∃ k:Nat,k≤(prefW l0).length∧i=.int .i64 k∧Zz (Nodes l0 (prefW l0) w1.heap.size w1 wr k))
    (fun i _=>(prefW l0).length - (intOf i).toNat)
   case atStart=>exact ⟨0,Nat.zero_le _,rfl,hHEAD⟩
   case round =>
    clear hHEAD
    obtain ⟨k,hk,rfl,HT⟩:=hrel
    by_cases hlt3:k<(prefW l0).length
    ·have hbel:=HT.out.below
     obtain ⟨adp,ep,hxp⟩:=Kd.at_string (Kd.C_below (Kd.R_reads' HR1.out).2.2 hbel) (k:Int) (by omega) (by omega)
     cases ep
     simp only [Int.toNat_natCast] at hxp
     have hmem:rdOf ByteArray.empty (prefW l0) (k:Int) ∈ prefW l0:=at_mem (by omega) (by omega)
     have hpz:=pref_size hmem
     clear hmem
     obtain ⟨p,hp⟩:∃ p,p=rdOf ByteArray.empty (prefW l0) (k:Int):=⟨_,rfl⟩
     rw [← hp] at hxp hpz
     have HP:=Zz.mk hp
     clear hp
     have hN:=HN.out
     have hPL:=prefW_len l0
     have hkey:keyOf Tryz.prog 9 (.string p)=some (.string (lw p)):=keyOf_string_mk Tryz.underlying9 (by unfold maxLen;omega)
     have HKEY:=Zz.mk hkey
     obtain ⟨D,hown,hD,hat⟩:=HT.out.map
     have HD:Zz (Maps.IsMap D∧∀ j,j<k→D.atKey (.string (lw (rdOf ByteArray.empty (prefW l0) (j:Int)))) (.lit (.int .i64 0))=.lit (.int .i64 j)):=⟨hD,hat⟩
     clear hD hat
     obtain ⟨kb,rb,hbs,_⟩:=bs_pure l0 p HS0.out (by omega)
     have HBS:=Zz.mk hbs
     clear hbs
     obtain ⟨b,hb⟩:∃ b,b=hasW l0 p:=⟨_,rfl⟩
     have HBE:=Zz.mk hb
     rw [← hb] at HBS
     clear hb
     have HBEL:=Zz.mk hbel
     clear hbel hkey
     obtain ⟨vn,hvn,hRn⟩:=HT.out.box
     obtain ⟨An,cn,rfl⟩:=Kd.R_slice hRn
     have hlen:((prefW l0).take k |>.map (nodeW (prefW l0) l0)).length=k:=by simp;omega
     rw [hlen] at hRn hvn
     have HRN:=Zz.mk hRn
     have HVN:=Zz.mk hvn
     clear hRn hvn
     go_wp2_with (first
      | (at_mapUpdate;refine wpList_mapUpdate_own _ rfl _ _ _ 104 rfl 9 3 strKeyed Tryz.underlying104 _ _ k _ rfl hown (by unfold maxLen;omega) _ _ _ rfl rfl HKEY.out _ [] (plainElem_int Tryz.underlying3 (wf_nat k (by omega))) ?_;intro w2 hown2 hgrow2;have HO2:=Zz.mk hown2;have HG2:=Zz.mk hgrow2;clear hown2 hgrow2 hown)
      | (go_at_call 82;refine (slices_BinarySearch_string_string.calls kb A0 c0 l0 p rb b _ (HCW.out _ (HBEL.out.grown HG2.out HBEL.out.size (fun g e=>by injection e with e;omega))) hc0 HBS.out).mono ?_;rintro e w3 ⟨rfl,hd3⟩;have hg3:=grown_drew HG2.out hd3;have HO3:=Zz.mk (map_drew HO2.out hd3);have hBX:w3.cell? ⟨w1.heap.size+1,0,none⟩=some (.slice An k cn):=box_cell (box_heap HVN.out hg3 (by omega));have hSZ:w1.heap.size+1<w3.heap.size:=Nat.lt_of_lt_of_le (lt_of_heap HVN.out) hg3.size;have hRN3:Zz (Kd.R k70 70 w3 (w1.heap.size+2) (fun _=>True) (.slice An k cn) (((prefW l0).take k).map (nodeW (prefW l0) l0))):=⟨Kd.R_mono (Kd.R_move (Kd.R_bound HRN.out) (fun g hg=>hg3.block g hg.2.2.1 (fun e=>by injection e with e;have:=hg.2.1;omega))) (fun _ hg=>hg.1)⟩;have HG3:=Zz.mk hg3;clear hd3 hg3)
      | (at_builtin;refine Kd.R_append k70 (w0:=w3) (w1.heap.size+2) rfl _ _ 29 70 (.agg #[(.int .i64 0),(.int .i64 0),(.bool false)]) 24 rfl Tryz.underlying29 info70 rfl (by decide) (by omega) (.slice An k cn) (((prefW l0).take k).map (nodeW (prefW l0) l0)) (⟨-1,-1,b⟩:S70) [.int .i64 (-1),.int .i64 (-1),.bool b] (fun _=>True) (fun _=>False) rfl ?aX (k70_mkM _ _ _ (⟨-1,-1,b⟩:S70)) (fun _ hk=>hk.elim) (fun _ _=>trivial) ?aO ?aB ?aS ?aL ?_;(case aX=>simp [Act.eval]);(case aO=>exact Kd.R_alloc hRN3.out _);(case aB=>exact (Below.refl _ _).alloc (by omega) _);(case aS=>rw [World.size_alloc];omega);(case aL=>rw [hlen];omega);intro v1 wx hRx hBelx hgx hatx;have HRX:=Zz.mk hRx;have HBX:=Zz.mk hBelx;have HGX:=Zz.mk hgx;have hhx:wx.heap[w1.heap.size+1]?=some (.cells #[.slice An k cn] 31 (0,0)):=(hBelx.block _ (by omega)).trans (box_heap HVN.out HG3.out (by omega));have hbx:=box_cell hhx;have hfx:=box_frozen hhx;have HHX:=Zz.mk hhx;obtain ⟨Ax,cx,ex⟩:=Kd.R_slice hRx;subst ex;clear hRx hBelx hgx hatx hhx))
     case roundEnd =>
      have hp0:p.size=0:=size0_of (by assumption)
      exact ⟨⟨k+1,by omega,by push_cast;rfl,⟨Nodes.next (Nat.le_refl _) HBEL.out HG3.out HO3.out HD.out hlt3 HP.out (prefW_ss l0) HBX.out (by rw [List.length_append,hlen];rfl) HRX.out HHX.out (by rw [node_root hp0,HBE.out])⟩⟩,by simp [intOf];omega⟩
     rename_i hne
     have hm0:(0:Int)≤(p.size:Int) - 1:=by
      have h0:p.size ≠ 0:=fun e=>by
       have:=(lw_inj (by have:=lw_length p;rw [e] at this;rw [List.length_eq_zero_iff.1 this];rfl):p=ByteArray.empty)
       subst this
       exact absurd hne (by simp)
      omega
     have hm2:(p.size:Int) - 1≤(p.size:Int):=by omega
     have hm3:(1:Int)≤(p.size:Int):=by omega
     have hm4:1≤p.size:=by omega
     have hps:p.size - 1<p.size:=by omega
     have hwr:IntKind.i64.wrap ((p.size:Int) - 1)=(p.size:Int) - 1:=by rw [i64_w];unfold wrap64;omega
     have hm1:(p.size:Int) - 1<(p.size:Int):=by omega
     have hlk:∃ c:Int,(∀ W:World,W.ownsMap Tryz.prog 9 (plainElem Tryz.prog 3) w1.heap.size (k+1) (DataW.put D (Lit.string (lw p)) (DataW.lit (Lit.int IntKind.i64 k)))→(Instr.lookup 104 (.map (some w1.heap.size)) (.string (p.extract 0 (p.size - 1))) false).run Tryz.prog W=.ok (.int .i64 c) W)∧(DataW.put D (Lit.string (lw p)) (DataW.lit (Lit.int IntKind.i64 k))).atKey (.string (lw (p.extract 0 (p.size - 1)))) (.lit (.int .i64 0))=.lit (.int .i64 c)∧(Lit.int .i64 c).wf=true:=by
      have hky:=keyOf_string_mk (s:=p.extract 0 (p.size - 1)) Tryz.underlying9 (by unfold maxLen;rw [ByteArray.size_extract];omega)
      obtain ⟨c,_,hc,hcw⟩:=HO3.out.lookup_int strKeyed Tryz.underlying104 Tryz.underlying3 (zint w3) hky
      refine ⟨c,fun W hW=>?_,hc,hcw⟩
      obtain ⟨c',hr,hc',_⟩:=hW.lookup_int strKeyed Tryz.underlying104 Tryz.underlying3 (zint W) hky
      have e:=hc'.symm.trans hc
      injection e with e
      injection e with _ e
      rw [hr,e]
     obtain ⟨c,hlk,hc,hcw⟩:=hlk
     have HC:=Zz.mk hc
     clear hc
     go_region_held3 (fun w'=>(Instr.lookup 104 (.map (some w1.heap.size)) (.string (p.extract 0 (p.size - 1))) false).run Tryz.prog w'=.ok (.int .i64 c) w') ((refine hlk _ ?_;repeat (first|exact HO3.out|exact HO3.out.alloc _|refine World.ownsMap.setCell ?_ (by simp;omega) _|refine World.ownsMap.alloc ?_ _|refine World.ownsMap.drew ?_))) (fail)
     all_goals clear hlk
     all_goals (
      rename_i hh_
      clear hh_
      generalize hLe:IntKind.i64.wrap (IntKind.u8.wrap (((p[p.size - 1]'hps).toNat:Int) - 97))=L
      generalize hW3:(w3.alloc (Obj.cells #[Value.int IntKind.i64 L,Value.int IntKind.i64 c,Value.bool b] 70)).drew=W3
      have hN0:W3.cell? ⟨w3.heap.size,0,none⟩=some (.int .i64 L):=by rw [← hW3];exact node_cell w3 _ 0 rfl
      have hN1:W3.cell? ⟨w3.heap.size,1,none⟩=some (.int .i64 c):=by rw [← hW3];exact node_cell w3 _ 1 rfl
      have hN2:W3.cell? ⟨w3.heap.size,2,none⟩=some (.bool b):=by rw [← hW3];exact node_cell w3 _ 2 rfl
      have hWS:W3.heap.size=w3.heap.size+1:=by rw [← hW3];simp
      have HGW:Zz (wr.grownBy W3 (some w1.heap.size)):=⟨by rw [← hW3];exact grown_alloc HG3.out _⟩
      have HMW:Zz (W3.ownsMap Tryz.prog 9 (plainElem Tryz.prog 3) w1.heap.size (k+1) (D.put (.string (lw p)) (.lit (.int .i64 k)))):=⟨by rw [← hW3];exact (HO3.out.alloc _).drew⟩
      have HRW:Zz (Kd.R k70 70 W3 (w1.heap.size+2) (fun _=>True) (.slice An k cn) (((prefW l0).take k).map (nodeW (prefW l0) l0))):=⟨by rw [← hW3];exact Kd.R_drew (Kd.R_alloc hRN3.out _)⟩
      have hbW:W3.cell? ⟨w1.heap.size+1,0,none⟩=some (.slice An k cn):=box_cell (box_heap HVN.out HGW.out (by omega))
      have HLE:=Zz.mk hLe
      clear hLe hW3)
     all_goals (go_wp2_with (at_builtin;refine Kd.R_append k70 (w0:=W3) (w1.heap.size+2) rfl _ _ 29 70 (.agg #[(.int .i64 0),(.int .i64 0),(.bool false)]) 24 rfl Tryz.underlying29 info70 rfl (by decide) (by omega) (.slice An k cn) (((prefW l0).take k).map (nodeW (prefW l0) l0)) (⟨L,c,b⟩:S70) [.int .i64 (L),.int .i64 c,.bool b] (fun _=>True) (fun _=>False) rfl ?aX (k70_mkM _ _ _ (⟨L,c,b⟩:S70)) (fun _ hk=>hk.elim) (fun _ _=>trivial) ?aO ?aB ?aS ?aL ?_;(case aX=>simp [Act.eval]);(case aO=>exact HRW.out);(case aB=>exact Below.refl _ _);(case aS=>omega);(case aL=>rw [hlen];omega);intro v1 wx hRx hBelx hgx hatx;have HRX:=Zz.mk hRx;have HBX:=Zz.mk hBelx;have HGX:=Zz.mk hgx;have hhx:wx.heap[w1.heap.size+1]?=some (.cells #[.slice An k cn] 31 (0,0)):=(hBelx.block _ (by omega)).trans (box_heap HVN.out HGW.out (by omega));have hbx:=box_cell hhx;have hfx:=box_frozen hhx;have HHX:=Zz.mk hhx;obtain ⟨Ax,cx,ex⟩:=Kd.R_slice hRx;subst ex;clear hRx hBelx hgx hatx hhx))
     all_goals (exact ⟨⟨k+1,by omega,by push_cast;rfl,⟨Nodes.next (Nat.le_refl _) HBEL.out HGW.out HMW.out HD.out hlt3 HP.out (prefW_ss l0) HBX.out (by rw [List.length_append,hlen];rfl) HRX.out HHX.out (node_cut hlt3 HP.out (by omega) HD.out HC.out (by rw [← HLE.out];exact letter_eq p hps) HBE.out)⟩⟩,by simp [intOf];omega⟩)
    ·obtain rfl:k=(prefW l0).length:=by omega
     obtain ⟨vn,hvn,hRn⟩:=HT.out.box
     obtain ⟨An,cn,rfl⟩:=Kd.R_slice hRn
     rw [List.take_length] at hRn hvn
     have hbx:=box_cell hvn
     have hbel:=HT.out.below
     have h1:=HS.out.below
     have h2:=HB1.out
     have h3:=h1.size
     have h4:=h2.size
     rw [World.size_alloc] at h3
     have hbig:=h1.trans ((h2.trans (hbel.mono h4)).mono h3)
     have hrs:wr.heap[w.heap.size]?=some (.cells #[.slice none 0 0] 31 (0,0)):=(hbig.block w.heap.size (by omega)).trans (World.alloc_heap_new w _)
     have hrc:=box_cell hrs
     have hrf:=box_frozen hrs
     have hne:w1.heap.size+1 ≠ w.heap.size:=by omega
     have hR2:Kd.R k70 70 (wr.setCell ⟨w.heap.size,0,none⟩ (.slice An ((prefW l0).map (nodeW (prefW l0) l0)).length cn)) w.heap.size (fun _=>True) (.slice An ((prefW l0).map (nodeW (prefW l0) l0)).length cn) (trieW l0) :=
      Kd.R_lower (Kd.R_mono (Kd.R_move (Kd.R_bound hRn) (fun g hg=>Below.heap_setCell _ _ _ _ (by have:=hg.2.1;simp;omega))) (fun _ hg=>hg.1)) (by omega)
     have hB2:Below w.heap.size w (wr.setCell ⟨w.heap.size,0,none⟩ (.slice An ((prefW l0).map (nodeW (prefW l0) l0)).length cn)):=(HW0.out.trans (hbig.mono (by omega))).setCell (Nat.le_refl _) _
     have hln:((prefW l0).map (nodeW (prefW l0) l0)).length=(prefW l0).length:=List.length_map _
     have hrs2:(wr.setCell ⟨w.heap.size,0,none⟩ (.slice An ((prefW l0).map (nodeW (prefW l0) l0)).length cn)).heap[w.heap.size]?=some (.cells #[.slice An ((prefW l0).map (nodeW (prefW l0) l0)).length cn] 31 (0,0)):=blk_put hrs 0 _ rfl
     rw [hln] at hR2 hB2 hbx hrs2
     have HPOST:=Zz.mk (And.intro hR2 hB2)
     clear hRn hvn hbel hbig hrs h1 h2 h3 h4 hR2 hB2
     have HRS:=Zz.mk hrs2
     clear hrs2
     go_wp2
     (try simp only [Exit.inBlock,Exit.then])
     refine bodyPost_ret (results_cell_row rfl _ _ w.heap.size 31 #[.slice An (prefW l0).length cn] (0,0) _ rfl HRS.out Tryz.underlying31 rfl (by kernel_rfl)) rfl ?_
     exact ⟨_,rfl,HPOST.out.1,HPOST.out.2⟩
def okTrieOf (l0:List ByteArray):Bool:=decide ((allPfx l0).length≤1073741824) && decide (l0.length≤1073741824) && decide (l0.Pairwise fun a b=>lw a≤lw b)
def impl_trieOf.f (l0:List ByteArray):Option (List S70):=if okTrieOf l0=true then some (trieW l0) else none
theorem impl_trieOf.calls (A0:Option Addr) (c0:Nat) (l0:List ByteArray) (r:List S70) (w:World) (hr0:Kd.C Kd.string w A0 l0.length l0) (hc0:l0.length≤c0) (h:impl_trieOf.f l0=some r) :
  Calls Tryz.prog 62 #[.slice A0 l0.length c0] w fun e w'=>∃ v0_:Value,e=.returned (.agg #[v0_])∧Kd.R k70 70 w' w.heap.size (fun _=>True) v0_ r∧Below w.heap.size w w':=by
 unfold impl_trieOf.f at h
 split at h
 case isFalse=>cases h
 rename_i hk
 obtain rfl:=Option.some.inj h
 simp only [okTrieOf,Bool.and_eq_true,decide_eq_true_eq] at hk
 exact impl_trieOf_walk A0 c0 l0 w hr0 hc0 hk.1.1 hk.1.2 hk.2
end Go.Proofs.YtadpmgdmiaoniaaGreatDoor.Q
