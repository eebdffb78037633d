import Derived.Test.YtadpmgdmiaoniaaGreatDoorB0
import Derived.Test.YtadpmgdmiaoniaaGreatDoorB1
import Derived.Test.YtadpmgdmiaoniaaGreatDoorBwWords
import Derived.Test.YtadpmgdmiaoniaaGreatDoorBwLast
import Derived.Test.YtadpmgdmiaoniaaGreatDoorBwTab
import Derived.Test.YtadpmgdmiaoniaaGreatDoorBwApart
import Derived.Test.YtadpmgdmiaoniaaGreatDoorBwFoot
import Derived.Test.YtadpmgdmiaoniaaGreatDoorBwKept
import Derived.Test.YtadpmgdmiaoniaaGreatDoorBwShare
import Derived.Test.YtadpmgdmiaoniaaGreatDoorBwN
import Derived.Test.YtadpmgdmiaoniaaGreatDoorBwAt
import Derived.Test.YtadpmgdmiaoniaaGreatDoorBwEqStruct
import Derived.Test.YtadpmgdmiaoniaaGreatDoorBwRepsOne
import Derived.Test.YtadpmgdmiaoniaaGreatDoorBwGuard
import Derived.Test.YtadpmgdmiaoniaaGreatDoorBwMore
import Derived.Test.YtadpmgdmiaoniaaGreatDoorProg
import Derived.Below
import Derived.Deep.Draws
import Derived.Deep.AppendLies
import Derived.Maps.AppendAt
import Derived.OwnWalk
import Derived.Laws.BytesArg
import Derived.Laws.MakeOwn
import Derived.Laws.OwnMore
import Derived.Deep.OwnRows
import Derived.Tactics
import Derived.Lib.ConvBytes
import Derived.Laws.Slices
import Derived.WalkKit
import Derived.KernelRfl
import Derived.RowKit3
import Derived.Deep.LoopGhost
import Derived.Deep.QuietTactic
import Derived.BigQuiet
import Derived.WideLaws
import Derived.Deep.DeepCutAuto
import Derived.Deep.CutBlock
import Derived.Deep.RegionHeld3
import Derived.Laws.Rows
import Derived.Lib.AppendStr
import Derived.ArgAppend
import Derived.Laws.IdiomCopy
import Derived.OrdersHeld
import Derived.Laws.BitsLemmas
import Derived.RowKit
set_option linter.unusedVariables false
set_option linter.unusedSimpArgs false
namespace Go.Proofs.YtadpmgdmiaoniaaGreatDoor.Q
open Go.RowKit Go.Proofs.YtadpmgdmiaoniaaGreatDoorW.PrintWords Go.Proofs.YtadpmgdmiaoniaaGreatDoorW.PrintLast Go.Proofs.YtadpmgdmiaoniaaGreatDoorW.PrintMore
attribute [local go_sem] run_field_23 run_field_24 run_field_30 run_field_31 isSome_setCell max2_int min2_int max_two min_two max_three min_three max_four min_four   -- for this text's walks alone
set_option linter.unusedVariables false
set_option linter.unusedSimpArgs false
mutual
def spec_l2Of.l0:Nat→List ByteArray→List ByteArray→Int→Option ((List (S70)))
  | 0,_,_,_=>none
  | k+1,x0,x3,x4=>if x4<(x0.length:Int) then (spec_l2Of.l1 k x0 x3 x4 1) else (spec_l2Of.l2 k x0 x3 0 (([]:List (S70))))
def spec_l2Of.l1:Nat→List ByteArray→List ByteArray→Int→Int→Option ((List (S70)))
  | 0,_,_,_,_=>none
  | k+1,x0,x3,x4,x5=>if 0≤x4 then (if x4<(x0.length:Int) then (if x5≤((rdOf ByteArray.empty x0 x4).size:Int) then (if 0≤x5 then ((spec_l2Put.f k x3 ((rdOf ByteArray.empty x0 x4).extract 0 (x5:Int).toNat)).bind fun t270=>(spec_l2Of.l1 k x0 t270 x4 (wrap64 (x5+1)))) else (none)) else (spec_l2Of.l0 k x0 x3 (wrap64 (x4+1)))) else (none)) else (none)
def spec_l2Of.l2:Nat→List ByteArray→List ByteArray→Int→List (S70)→Option ((List (S70)))
  | 0,_,_,_,_=>none
  | k+1,x0,x3,x7,x277000=>if x7<(x3.length:Int) then (if 0≤x7 then ((spec_l2Has.f k x0 (rdOf ByteArray.empty x3 x7)).bind fun t278=>(if x7 > 0 then (if 0≤(wrap64 (((rdOf ByteArray.empty x3 x7).size:Int) - 1)) then (if (wrap64 (((rdOf ByteArray.empty x3 x7).size:Int) - 1))<((rdOf ByteArray.empty x3 x7).size:Int) then (if (wrap64 (((rdOf ByteArray.empty x3 x7).size:Int) - 1))≤((rdOf ByteArray.empty x3 x7).size:Int) then ((spec_l2Place.f k x3 ((rdOf ByteArray.empty x3 x7).extract 0 ((wrap64 (((rdOf ByteArray.empty x3 x7).size:Int) - 1)):Int).toNat)).bind fun t280=>(if x277000.length<5864062014805 then (spec_l2Of.l2 k x0 x3 (wrap64 (x7+1)) (x277000 ++ [(⟨((bt (rdOf ByteArray.empty x3 x7) (wrap64 (((rdOf ByteArray.empty x3 x7).size:Int) - 1))) - 97) % 256,t280,t278⟩:S70)])) else (none))) else (none)) else (none)) else (none)) else (if x277000.length<5864062014805 then (spec_l2Of.l2 k x0 x3 (wrap64 (x7+1)) (x277000 ++ [(⟨(-1),(-1),t278⟩:S70)])) else (none)))) else (none)) else (some x277000)
end
def spec_l2Of.f (k:Nat) (l0:List ByteArray):Option ((List (S70))):=spec_l2Of.l0 k l0 (([(⟨#[]⟩:ByteArray)]:List ByteArray)) 0
set_option maxHeartbeats 8000000 in
set_option maxRecDepth 100000 in
theorem spec_l2Of.calls (k:Nat) (A0:Option Addr) (c0:Nat) (l0:List ByteArray) (r:List (S70)) (w:World) (hr0:Kd.C Kd.string w A0 l0.length l0) (hc0:l0.length≤c0) (h:spec_l2Of.f k l0=some r) :
  Calls Tryz.prog 55 #[.slice A0 l0.length c0] w fun e w'=>∃ v0_:Value,e=.returned (.agg #[v0_])∧Kd.R k70 70 w' w.heap.size (fun _=>True) v0_ r∧Below w.heap.size w w':=by
 have hu31:=Tryz.underlying31
 have hu70:=Tryz.underlying70
 have HR0:=Zz.mk hr0
 have HC0:=Zz.mk hc0
 clear hr0 hc0
 have HB:=Zz.mk (Below.refl w.heap.size w)
 have H:(spec_l2Of.l0 k l0 (([(⟨#[]⟩:ByteArray)]:List ByteArray)) 0)=some r:=h
 clear h
 obtain ⟨y265,hy265⟩:∃ y_:List ByteArray,y_=(([(⟨#[]⟩:ByteArray)]:List ByteArray)):=⟨_,rfl⟩
 replace H:(spec_l2Of.l0 k l0 y265 0)=some r:=by first|(rw [hy265];with_reducible exact H)|(have H2_:=(Option.bind_some _ _).symm.trans H;rw [hy265];with_reducible exact H2_)|(have H2_:=(Option.bind_some _ _).symm.trans H;with_reducible exact H2_)|with_reducible exact H|(rw [hy265];exact H)|exact H
 have Ny265:=Zz.mk hy265
 clear hy265
 have H':=Zz.mk H
 clear H
 go_enter Tryz.func55,Tryz.ntmps55
 go_wp2_with (first|((with_reducible refine gate_dst (N:=2) rfl ?_);refine box_event ?hg (N:=2) ?hd (cs:=#[.slice none 0 0]) (t:=31) ?hr ?_;(case hd=>rfl);(case hg=>rfl);(case hr=>first|(go_simp;done)|(go_simp;rfl));intro gb264 hg w2 hbox hb;have n0_:=Zz.mk (qP (by repeat (first|(with_reducible first|exact HB.out|apply qA|apply qN|apply q1_)|exact HB.out)) hb);have n1_:=Zz.mk (hbox);have n2_:=Zz.mk ((by rw [hg];exact (qZ (by repeat (first|(with_reducible first|exact HB.out|apply qA|apply qN|apply q1_)|exact HB.out))):w.heap.size≤gb264));have n3_:=Zz.mk ((by rw [hg];exact (qZ (by repeat (first|(with_reducible first|exact HB.out|apply qA|apply qN|apply q1_)|exact HB.out))):w.heap.size≤gb264));clear HB;have HB:=n0_;have BK264:=n1_;have GW264:=n2_;have GE264:=n3_;clear n0_ n1_ n2_ n3_;clear hb hbox hg)|((with_reducible refine gate_dst (N:=10) rfl ?_);refine Kd.R_lit Kd.string _ 9 ?hg (N:=10) ?hd (xs:=([(⟨#[]⟩:ByteArray)]:List ByteArray)) (inner:=[.string (⟨#[]⟩:ByteArray)]) (ok:=fun _=>True) (okp:=fun _=>True) ?hr ?hp (fun _ hk=>hk) trivial (Below.refl _ _) (Nat.le_refl _) (by simp) ?_;(case hd=>rfl);(case hg=>rfl);(case hr=>first|(go_simp;done)|(go_simp;rfl));(case hp=>exact (Reps.one (show Kd.M Kd.string _ _ _ (⟨#[]⟩:ByteArray) [.string (⟨#[]⟩:ByteArray)] from rfl) (Reps.none _ _)));intro v266 w3 ho4 hb hg_ hnew_;clear hg_ hnew_;(first|rw [← Ny265.out] at ho4|(simp only [Int.reduceToNat] at ho4;rw [← Ny265.out] at ho4));have n0_:=Zz.mk (Kd.R_lower ho4 (qZ (by repeat (first|(with_reducible first|exact HB.out|apply qA|apply qN|apply q1_|refine qS ?_ GE264.out)|exact HB.out))));have n1_:=Zz.mk (bB (g:=gb264) (o:=.cells #[.slice none 0 0] 31 (0,0)) (by (with_reducible repeat first|apply bN|apply bD|apply bA);exact BK264.out) hb);have n2_:=Zz.mk (qP (by repeat (first|(with_reducible first|exact HB.out|apply qA|apply qN|apply q1_|refine qS ?_ GE264.out)|exact HB.out)) hb);clear BK264;clear HB;have HO267:=n0_;have BK264:=n1_;have HB:=n2_;clear n0_ n1_ n2_;clear hb ho4))
 go_loopg [3,4] k (fun kq v3 v4 w'=>∃ (x3_1:List ByteArray) (x4_1:Int),v4=.int .i64 x4_1∧Zz (spec_l2Of.l0 kq l0 x3_1 x4_1=some r)∧Zz (kq≤k)∧Zz (Kd.V Kd.string 9 w' w.heap.size (fun k_=>k_ ≠ gb264) v3 x3_1)∧Zz (w'.heap[gb264]?=some (.cells #[(.slice none 0 0)] 31 (0,0)))∧Zz (Below w.heap.size w w'))
 case atStart=>exact ⟨(y265),(0),(by first|rfl|(simp;done)|(simp [*];done)),H',⟨Nat.le_refl _⟩,⟨Kd.R_V (by (with_reducible repeat first|apply Kd.R_alloc|apply Kd.R_drewN|apply Kd.R_drew);exact Kd.R_mono (Kd.R_types HO267.out BK264.out (by decide)) (fun _ hk=>hk.2))⟩,⟨by (with_reducible repeat first|apply bN|apply bD|apply bA);exact BK264.out⟩,⟨by repeat (first|(with_reducible first|exact HB.out|apply qA|apply qN|apply q1_|refine qS ?_ GE264.out)|exact HB.out)⟩⟩
 case round =>
  clear H'
  try clear p2
  obtain ⟨x3_1,x4_1,rfl,HA,HK1,HO_3,BK264,HB⟩:=hrel
  cases gk with
  | zero=>exact absurd HA.out (by simp [spec_l2Of.l0])
  | succ k1 =>
   have H:=HA.out
   clear HA
   simp only [spec_l2Of.l0] at H
   by_cases c5:x4_1<(l0.length:Int)
   ·rw [if_pos c5] at H
    have c5b0:decide (x4_1<(l0.length:Int))=true:=decide_eq_true c5
    clear c5
    have H':=Zz.mk H
    clear H
    go_wp2
    go_loopg [3,5] k1 (fun kq v3 v5 w'=>∃ (x3_2:List ByteArray) (x5_2:Int),v5=.int .i64 x5_2∧Zz (spec_l2Of.l1 kq l0 x3_2 x4_1 x5_2=some r)∧Zz (kq≤k1)∧Zz (Kd.V Kd.string 9 w' w.heap.size (fun k_=>k_ ≠ gb264) v3 x3_2)∧Zz (w'.heap[gb264]?=some (.cells #[(.slice none 0 0)] 31 (0,0)))∧Zz (Below w.heap.size w w'))
    case atStart=>exact ⟨(x3_1),(1),(by first|rfl|(simp;done)|(simp [*];done)),H',⟨Nat.le_refl _⟩,⟨by (with_reducible repeat (first|apply Kd.V_alloc|apply Kd.V_drewN|apply Kd.V_drew));exact HO_3.out⟩,⟨by (with_reducible repeat first|apply bN|apply bD|apply bA);exact BK264.out⟩,⟨by repeat (first|(with_reducible first|exact HB.out|apply qA|apply qN|apply q1_|refine qS ?_ GE264.out)|exact HB.out)⟩⟩
    case round =>
     clear H'
     try clear p2
     try clear c5
     try clear c5b0
     try clear p2
     obtain ⟨x3_2,x5_2,rfl,HA,HK2,HO_3,BK264,HB⟩:=hrel
     cases gk with
     | zero=>exact absurd HA.out (by simp [spec_l2Of.l1])
     | succ k2 =>
      have H:=HA.out
      clear HA
      simp only [spec_l2Of.l1] at H
      by_cases c6:0≤x4_1
      ·rw [if_pos c6] at H
       have c6b0:decide (0≤x4_1)=true:=decide_eq_true c6
       clear c6
       by_cases c7:x4_1<(l0.length:Int)
       ·rw [if_pos c7] at H
        have c7b0:decide (x4_1<(l0.length:Int))=true:=decide_eq_true c7
        clear c7
        by_cases c8:x5_2≤((rdOf ByteArray.empty l0 x4_1).size:Int)
        ·rw [if_pos c8] at H
         have c8b0:decide (x5_2≤((rdOf ByteArray.empty l0 x4_1).size:Int))=true:=decide_eq_true c8
         clear c8
         by_cases c9:0≤x5_2
         ·rw [if_pos c9] at H
          have c9b0:=eq_true c9
          have c9b1:decide (0≤x5_2)=true:=decide_eq_true c9
          clear c9
          have c10b0:=eq_true (of_decide_eq_true (by first|(with_reducible assumption)|assumption):x5_2≤((rdOf ByteArray.empty l0 x4_1).size:Int))
          replace H:=Option.bind_eq_some_iff.mp H
          obtain ⟨t270,A110,H⟩:=H
          replace H:(spec_l2Of.l1 k2 l0 t270 x4_1 (wrap64 (x5_2+1)))=some r:=H
          have A11:=Zz.mk A110
          clear A110
          have H':=Zz.mk H
          clear H
          have p268:0≤(x4_1:Int):=of_decide_eq_true (by first|(with_reducible assumption)|assumption)
          have q268:x4_1<(l0.length:Int):=of_decide_eq_true (by first|(with_reducible assumption)|assumption)
          obtain ⟨ad268,e268,hx268_0⟩:=Kd.at_string HR0.out x4_1 p268 q268
          cases e268
          replace hx268_0:=(HB.out.cell (World.block_lt_of_cell? w _ hx268_0)).trans hx268_0
          replace p268:=eq_true p268
          replace q268:=eq_true q268
          have p269:0≤(x4_1:Int):=of_decide_eq_true (by first|(with_reducible assumption)|assumption)
          have q269:x4_1<(l0.length:Int):=of_decide_eq_true (by first|(with_reducible assumption)|assumption)
          obtain ⟨ad269,e269,hx269_0⟩:=Kd.at_string HR0.out x4_1 p269 q269
          obtain rfl:ad268=ad269:=(by injection e269)
          replace hx269_0:=(HB.out.cell (World.block_lt_of_cell? w _ hx269_0)).trans hx269_0
          replace p269:=eq_true p269
          replace q269:=eq_true q269
          obtain ⟨Ao12,co12,eo12⟩:=Kd.V_slice HO_3.out
          subst eo12
          go_wp2_with (first|((with_reducible refine gate_callee (f:=67) rfl ?_);refine goesL_ (some 33) rfl rfl Tryz.func67 (by kernel_rfl) rfl #[.slice Ao12 x3_2.length co12,.string ((rdOf ByteArray.empty l0 x4_1).extract 0 (x5_2:Int).toNat)] rfl (by (try simp only [List.map_toArray,List.map_cons,List.map_nil]);first|done|rfl|(simp only [List.length_drop,List.length_take];rfl)) ?_;(with_reducible refine (spec_l2Put.calls k2 (fun k_=>k_ ≠ gb264) _ _ x3_2 ((rdOf ByteArray.empty l0 x4_1).extract 0 (x5_2:Int).toNat) t270 _ ?side1 A11.out).mono ?_);(case side1=>exact HO_3.out);rintro e w13 ⟨v271,rfl,ho0,hb⟩;refine ⟨_,rfl,?_⟩;have n0_:=Zz.mk (Kd.V_below (by (with_reducible repeat (first|apply Kd.V_alloc|apply Kd.V_drewN|apply Kd.V_drew));exact HO_3.out) hb);have n1_:=Zz.mk (Kd.V_lower (Kd.V_mono (ok':=fun k_=>k_ ≠ gb264) ho0 (fun k_ hk_=>Or.elim hk_ (fun hs_=>hs_) (fun hn_=>(Kd.freshB (g:=gb264) (o:=.cells #[.slice none 0 0] 31 (0,0)) (by (with_reducible repeat first|apply bN|apply bD|apply bA);exact BK264.out) k_ hn_)))) (qZ (by repeat (first|(with_reducible first|exact HB.out|apply qA|apply qN|apply q1_|refine qS ?_ GE264.out)|exact HB.out))));have n2_:=Zz.mk (bB (g:=gb264) (o:=.cells #[.slice none 0 0] 31 (0,0)) (by (with_reducible repeat first|apply bN|apply bD|apply bA);exact BK264.out) hb);have n3_:=Zz.mk (qP (by repeat (first|(with_reducible first|exact HB.out|apply qA|apply qN|apply q1_|refine qS ?_ GE264.out)|exact HB.out)) hb);clear HO_3;clear BK264;clear HB;have HO_3:=n0_;have HO272:=n1_;have BK264:=n2_;have HB:=n3_;clear n0_ n1_ n2_ n3_;(try clear hb);(try clear hb2);(try clear hk);(try clear hi);(try clear ho0)))
          go_roundg k2
          case measure=>have:=HK1.out;have:=HK2.out;omega
          case rel=>exact ⟨(t270),(wrap64 (x5_2+1)),(by first|rfl|(simp;done)|(simp [*];done)),H',⟨by have:=HK1.out;have:=HK2.out;omega⟩,⟨by (with_reducible repeat (first|apply Kd.V_alloc|apply Kd.V_drewN|apply Kd.V_drew));exact HO272.out⟩,⟨by (with_reducible repeat first|apply bN|apply bD|apply bA);exact BK264.out⟩,⟨by repeat (first|(with_reducible first|exact HB.out|apply qA|apply qN|apply q1_|refine qS ?_ GE264.out)|exact HB.out)⟩⟩
         ·rw [if_neg c9] at H
          exact absurd H (by simp)
        ·rw [if_neg c8] at H
         have c8b0:decide (x5_2≤((rdOf ByteArray.empty l0 x4_1).size:Int))=false:=decide_eq_false c8
         clear c8
         have H':=Zz.mk H
         clear H
         have p268:0≤(x4_1:Int):=of_decide_eq_true (by first|(with_reducible assumption)|assumption)
         have q268:x4_1<(l0.length:Int):=of_decide_eq_true (by first|(with_reducible assumption)|assumption)
         obtain ⟨ad268,e268,hx268_0⟩:=Kd.at_string HR0.out x4_1 p268 q268
         cases e268
         replace hx268_0:=(HB.out.cell (World.block_lt_of_cell? w _ hx268_0)).trans hx268_0
         replace p268:=eq_true p268
         replace q268:=eq_true q268
         go_wp2
         go_roundg k2
         case measure=>have:=HK1.out;have:=HK2.out;omega
         case rel=>exact ⟨(x3_2),(wrap64 (x4_1+1)),(by first|rfl|(simp;done)|(simp [*];done)),H',⟨by have:=HK1.out;have:=HK2.out;omega⟩,⟨by (with_reducible repeat (first|apply Kd.V_alloc|apply Kd.V_drewN|apply Kd.V_drew));exact HO_3.out⟩,⟨by (with_reducible repeat first|apply bN|apply bD|apply bA);exact BK264.out⟩,⟨by repeat (first|(with_reducible first|exact HB.out|apply qA|apply qN|apply q1_|refine qS ?_ GE264.out)|exact HB.out)⟩⟩
       ·rw [if_neg c7] at H
        exact absurd H (by simp)
      ·rw [if_neg c6] at H
       exact absurd H (by simp)
   ·rw [if_neg c5] at H
    have c5b0:decide (x4_1<(l0.length:Int))=false:=decide_eq_false c5
    clear c5
    obtain ⟨y273,hy273⟩:∃ y_:List (S70),y_=(([]:List (S70))):=⟨_,rfl⟩
    replace H:(spec_l2Of.l2 k1 l0 x3_1 0 y273)=some r:=by first|(rw [hy273];with_reducible exact H)|(have H2_:=(Option.bind_some _ _).symm.trans H;rw [hy273];with_reducible exact H2_)|(have H2_:=(Option.bind_some _ _).symm.trans H;with_reducible exact H2_)|with_reducible exact H|(rw [hy273];exact H)|exact H
    have Ny273:=Zz.mk hy273
    clear hy273
    have H':=Zz.mk H
    clear H
    go_wp2_with (first|((with_reducible refine gate_dst (N:=34) rfl ?_);refine Kd.R_lit k70 _ 70 ?hg (N:=34) ?hd (xs:=([]:List (S70))) (inner:=[]) (ok:=fun _=>True) (okp:=fun _=>True) ?hr ?hp (fun _ hk=>hk) trivial (Below.refl _ _) (Nat.le_refl _) (by simp) ?_;(case hd=>rfl);(case hg=>rfl);(case hr=>first|(go_simp;done)|(go_simp;rfl));(case hp=>exact (Reps.none _ _));intro v274 w14 ho15 hb hg_ hnew_;clear hg_ hnew_;(first|rw [← Ny273.out] at ho15|(simp only [Int.reduceToNat] at ho15;rw [← Ny273.out] at ho15));have n0_:=Zz.mk (Kd.V_elder' (by (with_reducible repeat (first|apply Kd.V_alloc|apply Kd.V_drewN|apply Kd.V_drew));exact HO_3.out) (Kd.R_base ho15) hb);have n1_:=Zz.mk (Kd.R_lower ho15 (qZ (by repeat (first|(with_reducible first|exact HB.out|apply qA|apply qN|apply q1_|refine qS ?_ GE264.out)|exact HB.out))));have n2_:=Zz.mk (bB (g:=gb264) (o:=.cells #[.slice none 0 0] 31 (0,0)) (by (with_reducible repeat first|apply bN|apply bD|apply bA);exact BK264.out) hb);have n3_:=Zz.mk (qP (by repeat (first|(with_reducible first|exact HB.out|apply qA|apply qN|apply q1_|refine qS ?_ GE264.out)|exact HB.out)) hb);clear HO_3;clear BK264;clear HB;have HO_3:=n0_;have HO275:=n1_;have BK264:=n2_;have HB:=n3_;clear n0_ n1_ n2_ n3_;clear hb ho15;obtain ⟨Ao16,co16,eo16⟩:=Kd.R_slice HO275.out;subst eo16)|((with_reducible refine gate_dst (N:=6) rfl ?_);refine box_event ?hg (N:=6) ?hd (cs:=#[.slice none 0 0]) (t:=31) ?hr ?_;(case hd=>rfl);(case hg=>rfl);(case hr=>first|(go_simp;done)|(go_simp;rfl));intro gb276 hg w17 hbox hb;have n0_:=Zz.mk (Kd.V_below (Kd.V_elderB (by (with_reducible repeat (first|apply Kd.V_alloc|apply Kd.V_drewN|apply Kd.V_drew));exact HO_3.out) gb276 (Nat.le_of_eq hg.symm)) hb);have n1_:=Zz.mk (Kd.R_below (by (with_reducible repeat first|apply Kd.R_alloc|apply Kd.R_drewN|apply Kd.R_drew);exact HO275.out) hb);have n2_:=Zz.mk (bB (g:=gb264) (o:=.cells #[.slice none 0 0] 31 (0,0)) (by (with_reducible repeat first|apply bN|apply bD|apply bA);exact BK264.out) hb);have n3_:=Zz.mk (qP (by repeat (first|(with_reducible first|exact HB.out|apply qA|apply qN|apply q1_|refine qS ?_ GE264.out)|exact HB.out)) hb);have n4_:=Zz.mk (hbox);have n5_:=Zz.mk ((by rw [hg];exact (qZ (by repeat (first|(with_reducible first|exact HB.out|apply qA|apply qN|apply q1_|refine qS ?_ GE264.out)|exact HB.out))):w.heap.size≤gb276));have n6_:=Zz.mk ((by rw [hg];exact (qZ (by repeat (first|(with_reducible first|exact HB.out|apply qA|apply qN|apply q1_|refine qS ?_ GE264.out)|exact HB.out))):w.heap.size≤gb276));have n7_:=Zz.mk ((by rw [hg];exact Nat.ne_of_lt (blk_lt (g:=gb264) (o:=.cells #[.slice none 0 0] 31 (0,0)) (by (with_reducible repeat first|apply bN|apply bD|apply bA);exact BK264.out)):gb264 ≠ gb276));have n8_:=Zz.mk ((by rw [hg];exact Nat.ne_of_gt (blk_lt (g:=gb264) (o:=.cells #[.slice none 0 0] 31 (0,0)) (by (with_reducible repeat first|apply bN|apply bD|apply bA);exact BK264.out)):gb276 ≠ gb264));clear HO_3;clear HO275;clear BK264;clear HB;have HO_3:=n0_;have HO275:=n1_;have BK264:=n2_;have HB:=n3_;have BK276:=n4_;have GW276:=n5_;have GE276:=n6_;have NB264_276:=n7_;have NB276_264:=n8_;clear n0_ n1_ n2_ n3_ n4_ n5_ n6_ n7_ n8_;clear hb hbox hg;have hnb18:=NB276_264.out;have hnc18:=NB264_276.out;have hcz19_0:w17.cell? ⟨gb276,0,none⟩=some (.slice none 0 0):=(bC BK276.out 0).trans rfl;have hfz19_0:=bF BK276.out 0))
    go_loopg [7] k1 (fun kq v7 w'=>∃ (x7_2:Int) (x277000_2:List (S70)) (u277000:Value),v7=.int .i64 x7_2∧Zz (spec_l2Of.l2 kq l0 x3_1 x7_2 x277000_2=some r)∧Zz (kq≤k1)∧Zz (Kd.V Kd.string 9 w' w.heap.size (fun k_=>some k_ ≠ (u277000:Value).ownBlock∧k_ ≠ gb264∧k_ ≠ gb276) u3 x3_1)∧Zz (Kd.R k70 70 w' w.heap.size (fun _=>True) u277000 x277000_2)∧Zz (w'.heap[gb264]?=some (.cells #[(.slice none 0 0)] 31 (0,0)))∧Zz (w'.heap[gb276]?=some (.cells #[u277000] 31 (0,0)))∧Zz (Below w.heap.size w w'))
    case atStart=>exact ⟨(0),(y273),(.slice Ao16 y273.length co16),(by first|rfl|(simp;done)|(simp [*];done)),H',⟨Nat.le_refl _⟩,⟨by (with_reducible repeat (first|apply Kd.V_alloc|apply Kd.V_drewN|apply Kd.V_drew));exact Kd.V_mono (V_same_ (Kd.V_far (p:=⟨gb276,0,none⟩) (Kd.V_mono HO_3.out (fun k_ hk=>(⟨hk,hk.2⟩:_∧k_ ≠ gb276))) (fun _ hk=>hk.2) (.slice Ao16 y273.length co16)) rfl) (fun _ hk=>⟨hk.1.1.2,⟨hk.1.1.1,hk.1.2⟩⟩)⟩,⟨by (with_reducible repeat first|apply Kd.R_alloc|apply Kd.R_drewN|apply Kd.R_drew);exact Kd.R_mono (R_same_ (Kd.R_far (p:=⟨gb276,0,none⟩) (Kd.R_types HO275.out BK276.out (by decide)) (fun _ hk=>hk.2) (.slice Ao16 y273.length co16)) rfl) (fun _ hk=>trivial)⟩,⟨by (with_reducible repeat first|apply bN|apply bD|apply bA);refine blk_far ?_ NB264_276.out _;(with_reducible repeat first|apply bN|apply bD|apply bA);exact BK264.out⟩,⟨by (with_reducible repeat first|apply bN|apply bD|apply bA);refine blk_put (cs:=#[.slice none 0 0]) ?_ 0 _ rfl;(with_reducible repeat first|apply bN|apply bD|apply bA);exact BK276.out⟩,⟨by repeat (first|(with_reducible first|exact HB.out|apply qA|apply qN|apply q1_|refine qS ?_ GE264.out|refine qS ?_ GE276.out)|exact HB.out)⟩⟩
    case round =>
     clear H'
     try clear c1
     try clear p2
     try clear q2
     try clear hx2
     try clear c5
     try clear c5b0
     try clear c6
     try clear c6b0
     try clear p6
     try clear c7
     try clear c7b0
     try clear c8
     try clear c8b0
     try clear c9
     try clear c9b0
     try clear c9b1
     try clear c10
     try clear c10b0
     try clear c18
     try clear hcz19_0
     try clear hfz19_0
     try clear hx268_0
     try clear hx269_0
     try clear p2
     try clear p268
     try clear p269
     try clear q268
     try clear q269
     obtain ⟨x7_2,x277000_2,u277000,rfl,HA,HK2,HO_3,HO_277000,BK264,BK276,HB⟩:=hrel
     cases gk with
     | zero=>exact absurd HA.out (by simp [spec_l2Of.l2])
     | succ k2 =>
      have H:=HA.out
      clear HA
      simp only [spec_l2Of.l2] at H
      by_cases c20:x7_2<(x3_1.length:Int)
      ·rw [if_pos c20] at H
       have c20b0:decide (x7_2<(x3_1.length:Int))=true:=decide_eq_true c20
       clear c20
       by_cases c21:0≤x7_2
       ·rw [if_pos c21] at H
        have c21b0:decide (0≤x7_2)=true:=decide_eq_true c21
        clear c21
        replace H:=Option.bind_eq_some_iff.mp H
        obtain ⟨t278,A220,H⟩:=H
        replace H:(if x7_2 > 0 then (if 0≤(wrap64 (((rdOf ByteArray.empty x3_1 x7_2).size:Int) - 1)) then (if (wrap64 (((rdOf ByteArray.empty x3_1 x7_2).size:Int) - 1))<((rdOf ByteArray.empty x3_1 x7_2).size:Int) then (if (wrap64 (((rdOf ByteArray.empty x3_1 x7_2).size:Int) - 1))≤((rdOf ByteArray.empty x3_1 x7_2).size:Int) then ((spec_l2Place.f k2 x3_1 ((rdOf ByteArray.empty x3_1 x7_2).extract 0 ((wrap64 (((rdOf ByteArray.empty x3_1 x7_2).size:Int) - 1)):Int).toNat)).bind fun t280=>(if x277000_2.length<5864062014805 then (spec_l2Of.l2 k2 l0 x3_1 (wrap64 (x7_2+1)) (x277000_2 ++ [(⟨((bt (rdOf ByteArray.empty x3_1 x7_2) (wrap64 (((rdOf ByteArray.empty x3_1 x7_2).size:Int) - 1))) - 97) % 256,t280,t278⟩:S70)])) else (none))) else (none)) else (none)) else (none)) else (if x277000_2.length<5864062014805 then (spec_l2Of.l2 k2 l0 x3_1 (wrap64 (x7_2+1)) (x277000_2 ++ [(⟨(-1),(-1),t278⟩:S70)])) else (none)))=some r:=H
        have A22:=Zz.mk A220
        clear A220
        by_cases c23:x7_2 > 0
        ·rw [if_pos c23] at H
         have c23b0:decide (0<x7_2)=true:=decide_eq_true c23
         clear c23
         obtain ⟨ji24,hji24⟩:∃ j_:Int,(wrap64 (((rdOf ByteArray.empty x3_1 x7_2).size:Int) - 1))=j_:=⟨_,rfl⟩
         replace H:(if 0≤(ji24) then (if (ji24)<((rdOf ByteArray.empty x3_1 x7_2).size:Int) then (if (ji24)≤((rdOf ByteArray.empty x3_1 x7_2).size:Int) then ((spec_l2Place.f k2 x3_1 ((rdOf ByteArray.empty x3_1 x7_2).extract 0 ((ji24):Int).toNat)).bind fun t280=>(if x277000_2.length<5864062014805 then (spec_l2Of.l2 k2 l0 x3_1 (wrap64 (x7_2+1)) (x277000_2 ++ [(⟨((bt (rdOf ByteArray.empty x3_1 x7_2) (ji24)) - 97) % 256,t280,t278⟩:S70)])) else (none))) else (none)) else (none)) else (none))=some r:=by first|(rw [hji24] at H;exact H)|(simp only [hji24] at H ⊢;exact H)
         (try rw [hji24] at A22)
         have hji24w:(IntKind.i64.wrap (((rdOf ByteArray.empty x3_1 x7_2).size:Int) - 1))=ji24:=(i64_w _).trans hji24
         by_cases c25:0≤(ji24)
         ·rw [if_pos c25] at H
          have c25b0:decide (0≤(ji24))=true:=decide_eq_true c25
          clear c25
          by_cases c26:(ji24)<((rdOf ByteArray.empty x3_1 x7_2).size:Int)
          ·rw [if_pos c26] at H
           have c26b0:decide ((ji24)<((rdOf ByteArray.empty x3_1 x7_2).size:Int))=true:=decide_eq_true c26
           clear c26
           have c28b0:=eq_true (of_decide_eq_true (by first|(with_reducible assumption)|assumption):0≤(ji24))
           by_cases c29:(ji24)≤((rdOf ByteArray.empty x3_1 x7_2).size:Int)
           ·rw [if_pos c29] at H
            have c29b0:=eq_true c29
            have c29b1:decide ((ji24)≤((rdOf ByteArray.empty x3_1 x7_2).size:Int))=true:=decide_eq_true c29
            clear c29
            replace H:=Option.bind_eq_some_iff.mp H
            obtain ⟨t280,A300,H⟩:=H
            replace H:(if x277000_2.length<5864062014805 then (spec_l2Of.l2 k2 l0 x3_1 (wrap64 (x7_2+1)) (x277000_2 ++ [(⟨((bt (rdOf ByteArray.empty x3_1 x7_2) (ji24)) - 97) % 256,t280,t278⟩:S70)])) else (none))=some r:=H
            have A30:=Zz.mk A300
            clear A300
            by_cases c31:x277000_2.length<5864062014805
            ·rw [if_pos c31] at H
             have LMc31:=Zz.mk c31
             clear c31
             obtain ⟨y281,hy281⟩:∃ y_:List (S70),y_=(x277000_2 ++ [(⟨((bt (rdOf ByteArray.empty x3_1 x7_2) (ji24)) - 97) % 256,t280,t278⟩:S70)]):=⟨_,rfl⟩
             replace H:(spec_l2Of.l2 k2 l0 x3_1 (wrap64 (x7_2+1)) y281)=some r:=by first|(rw [hy281];with_reducible exact H)|(have H2_:=(Option.bind_some _ _).symm.trans H;rw [hy281];with_reducible exact H2_)|(have H2_:=(Option.bind_some _ _).symm.trans H;with_reducible exact H2_)|with_reducible exact H|(rw [hy281];exact H)|exact H
             have Ny281:=Zz.mk hy281
             clear hy281
             have H':=Zz.mk H
             clear H
             obtain ⟨Ao32,co32,eo32⟩:=Kd.V_slice HO_3.out
             subst eo32
             have p277:0≤(x7_2:Int):=of_decide_eq_true (by first|(with_reducible assumption)|assumption)
             have q277:x7_2<(x3_1.length:Int):=of_decide_eq_true (by first|(with_reducible assumption)|assumption)
             obtain ⟨ad277,e277,hx277_0⟩:=Kd.at_string (Kd.V_reads' HO_3.out).2.2 x7_2 p277 q277
             cases e277
             replace p277:=eq_true p277
             replace q277:=eq_true q277
             go_wp2_with (first|((with_reducible refine gate_callee (f:=68) rfl ?_);refine goesL_ (some 48) rfl rfl Tryz.func68 (by kernel_rfl) rfl #[.slice A0 l0.length c0,.string (rdOf ByteArray.empty x3_1 x7_2)] rfl (by (try simp only [List.map_toArray,List.map_cons,List.map_nil]);first|done|rfl|(simp only [List.length_drop,List.length_take];rfl)) ?_;(with_reducible refine (spec_l2Has.calls k2 _ _ l0 (rdOf ByteArray.empty x3_1 x7_2) t278 _ ?side1 ?side2 A22.out).mono ?_);(case side1=>repeat (first|exact (Kd.C_below HR0.out HB.out)|(with_reducible refine Kd.C_alloc ?_ _)|(with_reducible refine Kd.C_drewN ?_ _)|(with_reducible refine Kd.C_drew ?_)));(case side2=>exact HC0.out);rintro e w' ⟨rfl,⟨nd,rfl⟩⟩;refine ⟨_,rfl,?_⟩;(try (rw [drewN_self wr];generalize hq_:World.drewN wr _=wr;have n0_:Zz (Kd.R k70 70 wr w.heap.size (fun _=>True) u277000 x277000_2):=⟨by rw [← hq_];exact (by (with_reducible repeat first|apply Kd.R_alloc|apply Kd.R_drewN|apply Kd.R_drew);exact HO_277000.out)⟩;have n1_:Zz (Kd.V Kd.string 9 wr w.heap.size (fun k_=>some k_ ≠ (u277000:Value).ownBlock∧k_ ≠ gb264∧k_ ≠ gb276) (.slice (some ad277) x3_1.length co32) x3_1):=⟨by rw [← hq_];exact (by (with_reducible repeat (first|apply Kd.V_alloc|apply Kd.V_drewN|apply Kd.V_drew));exact HO_3.out)⟩;have n2_:Zz (wr.heap[gb264]?=some (.cells #[.slice none 0 0] 31 (0,0))):=⟨by rw [← hq_];exact (by (with_reducible repeat first|apply bN|apply bD|apply bA);exact BK264.out)⟩;have n3_:Zz (wr.heap[gb276]?=some (.cells #[u277000] 31 (0,0))):=⟨by rw [← hq_];exact (by (with_reducible repeat first|apply bN|apply bD|apply bA);exact BK276.out)⟩;have n4_:Zz (Below w.heap.size w wr):=⟨by rw [← hq_];exact (by repeat (first|(with_reducible first|exact HB.out|apply qA|apply qN|apply q1_|refine qS ?_ GE264.out|refine qS ?_ GE276.out)|exact HB.out))⟩;clear HO_277000 HO_3 BK264 BK276 HB hq_;have HO_277000:=n0_;have HO_3:=n1_;have BK264:=n2_;have BK276:=n3_;have HB:=n4_;clear n0_ n1_ n2_ n3_ n4_)))|((with_reducible refine gate_dst (N:=9) rfl ?_);refine box_event ?hg (N:=9) ?hd (cs:=#[.int .i64 0,.int .i64 0,.bool false]) (t:=70) ?hr ?_;(case hd=>rfl);(case hg=>rfl);(case hr=>first|(go_simp;done)|(go_simp;rfl));intro gb279 hg w33 hbox hb;have n0_:=Zz.mk (Kd.V_below (Kd.V_elderB (by (with_reducible repeat (first|apply Kd.V_alloc|apply Kd.V_drewN|apply Kd.V_drew));exact HO_3.out) gb279 (Nat.le_of_eq hg.symm)) hb);have n1_:=Zz.mk (Kd.R_below (Kd.R_elderB (by (with_reducible repeat first|apply Kd.R_alloc|apply Kd.R_drewN|apply Kd.R_drew);exact HO_277000.out) gb279 (Nat.le_of_eq hg.symm)) hb);have n2_:=Zz.mk (bB (g:=gb264) (o:=.cells #[.slice none 0 0] 31 (0,0)) (by (with_reducible repeat first|apply bN|apply bD|apply bA);exact BK264.out) hb);have n3_:=Zz.mk (bB (g:=gb276) (o:=.cells #[u277000] 31 (0,0)) (by (with_reducible repeat first|apply bN|apply bD|apply bA);exact BK276.out) hb);have n4_:=Zz.mk (qP (by repeat (first|(with_reducible first|exact HB.out|apply qA|apply qN|apply q1_|refine qS ?_ GE264.out|refine qS ?_ GE276.out)|exact HB.out)) hb);have n5_:=Zz.mk (hbox);have n6_:=Zz.mk ((by rw [hg];exact (qZ (by repeat (first|(with_reducible first|exact HB.out|apply qA|apply qN|apply q1_|refine qS ?_ GE264.out|refine qS ?_ GE276.out)|exact HB.out))):w.heap.size≤gb279));have n7_:=Zz.mk ((by rw [hg];exact (qZ (by repeat (first|(with_reducible first|exact HB.out|apply qA|apply qN|apply q1_|refine qS ?_ GE264.out|refine qS ?_ GE276.out)|exact HB.out))):w.heap.size≤gb279));have n8_:=Zz.mk ((by rw [hg];exact Nat.ne_of_lt (blk_lt (g:=gb264) (o:=.cells #[.slice none 0 0] 31 (0,0)) (by (with_reducible repeat first|apply bN|apply bD|apply bA);exact BK264.out)):gb264 ≠ gb279));have n9_:=Zz.mk ((by rw [hg];exact Nat.ne_of_gt (blk_lt (g:=gb264) (o:=.cells #[.slice none 0 0] 31 (0,0)) (by (with_reducible repeat first|apply bN|apply bD|apply bA);exact BK264.out)):gb279 ≠ gb264));have n10_:=Zz.mk ((by rw [hg];exact Nat.ne_of_lt (blk_lt (g:=gb276) (o:=.cells #[u277000] 31 (0,0)) (by (with_reducible repeat first|apply bN|apply bD|apply bA);exact BK276.out)):gb276 ≠ gb279));have n11_:=Zz.mk ((by rw [hg];exact Nat.ne_of_gt (blk_lt (g:=gb276) (o:=.cells #[u277000] 31 (0,0)) (by (with_reducible repeat first|apply bN|apply bD|apply bA);exact BK276.out)):gb279 ≠ gb276));clear HO_3;clear HO_277000;clear BK264;clear BK276;clear HB;have HO_3:=n0_;have HO_277000:=n1_;have BK264:=n2_;have BK276:=n3_;have HB:=n4_;have BK279:=n5_;have GW279:=n6_;have GE279:=n7_;have NB264_279:=n8_;have NB279_264:=n9_;have NB276_279:=n10_;have NB279_276:=n11_;clear n0_ n1_ n2_ n3_ n4_ n5_ n6_ n7_ n8_ n9_ n10_ n11_;clear hb hbox hg;have hnb34:=NB279_264.out;have hnc34:=NB264_279.out;have hnb35:=NB279_276.out;have hnc35:=NB276_279.out;have hcz36_0:w33.cell? ⟨gb279,0,none⟩=some (.int .i64 0):=(bC BK279.out 0).trans rfl;have hcz36_1:w33.cell? ⟨gb279,1,none⟩=some (.int .i64 0):=(bC BK279.out 1).trans rfl;have hcz36_2:w33.cell? ⟨gb279,2,none⟩=some (.bool false):=(bC BK279.out 2).trans rfl;have hfz36_0:=bF BK279.out 0;have hfz36_1:=bF BK279.out 1;have hfz36_2:=bF BK279.out 2;have p27:0≤((ji24):Int):=of_decide_eq_true (by first|(with_reducible assumption)|assumption);have q27:(ji24)<((rdOf ByteArray.empty x3_1 x7_2).size:Int):=of_decide_eq_true (by first|(with_reducible assumption)|assumption);have hx27:=bt_at (rdOf ByteArray.empty x3_1 x7_2) (ji24);replace p27:=eq_true p27;replace q27:=eq_true q27)|((with_reducible refine gate_callee (f:=69) rfl ?_);refine goesL_ (some 66) rfl rfl Tryz.func69 (by kernel_rfl) rfl #[.slice (some ad277) x3_1.length co32,.string ((rdOf ByteArray.empty x3_1 x7_2).extract 0 ((ji24):Int).toNat)] rfl (by (try simp only [List.map_toArray,List.map_cons,List.map_nil]);first|done|(simp only [hji24];rfl)|rfl|(simp only [List.length_drop,List.length_take];rfl)) ?_;(with_reducible refine (spec_l2Place.calls k2 _ _ x3_1 ((rdOf ByteArray.empty x3_1 x7_2).extract 0 ((ji24):Int).toNat) t280 _ ?side1 ?side2 A30.out).mono ?_);(case side1=>refine (Kd.V_reads' (e:=9) (base:=w.heap.size) (ok:=fun k_=>((some k_ ≠ (u277000:Value).ownBlock∧(k_ ≠ gb264∧k_ ≠ gb276))∧k_ ≠ gb279)) (n:=x3_1.length) (c:=co32) ?_).2.2;exact (by (with_reducible repeat (first|apply Kd.V_alloc|apply Kd.V_drewN|apply Kd.V_drew));exact (Kd.V_mono (V_same_ (Kd.V_far (p:=⟨gb279,0,none⟩) (Kd.V_far (p:=⟨gb279,2,none⟩) (Kd.V_far (p:=⟨gb279,1,none⟩) (Kd.V_far (p:=⟨gb279,0,none⟩) (Kd.V_mono HO_3.out (fun k_ hk=>(⟨hk,hk.2⟩:_∧k_ ≠ gb279))) (fun _ hk=>hk.2) (.int .i64 (-1))) (fun _ hk=>hk.2) (.int .i64 (-1))) (fun _ hk=>hk.2) (.bool t278)) (fun _ hk=>hk.2) (.int .i64 (((bt (rdOf ByteArray.empty x3_1 x7_2) (ji24)) - 97) % 256))) rfl) (fun _ h_=>h_.1))));(case side2=>exact (Kd.V_reads' HO_3.out).2.1);rintro e w' ⟨rfl,⟨nd,rfl⟩⟩;refine ⟨_,rfl,?_⟩;have hnb37:=NB276_264.out;have hnc37:=NB264_276.out;have hcz38_0:w33.cell? ⟨gb276,0,none⟩=some (u277000):=(bC BK276.out 0).trans rfl;have hfz38_0:=bF BK276.out 0)|((with_reducible refine gate_builtin (b:=.append) (xs:=#[.tmp 69,.tmp 71]) rfl ?_);at_builtin;refine Kd.R_append k70 (w0:=w) w.heap.size rfl (.tmp 69) (.tmp 71) 29 70 (.agg #[(.int .i64 0),(.int .i64 0),(.bool false)]) 24 rfl Tryz.underlying29 info70 rfl (by decide) (by omega) u277000 x277000_2 (⟨((bt (rdOf ByteArray.empty x3_1 x7_2) (ji24)) - 97) % 256,t280,t278⟩:S70) [.int .i64 (((bt (rdOf ByteArray.empty x3_1 x7_2) (ji24)) - 97) % 256),.int .i64 t280,.bool t278] (fun k_=>k_ ≠ gb279) (fun _=>False) rfl (by first|(go_simp;done)|(go_simp;rfl)) ?aP (fun _ hk=>hk.elim) ?aF ?aO ?aB ?aS ?aL ?_;(case aP=>exact k70_mkM _ _ _ (⟨((bt (rdOf ByteArray.empty x3_1 x7_2) (ji24)) - 97) % 256,t280,t278⟩:S70));(case aB=>exact (by repeat (first|(with_reducible first|exact HB.out|apply qA|apply qN|apply q1_|refine qS ?_ GE264.out|refine qS ?_ GE276.out|refine qS ?_ GE279.out)|exact HB.out)));(case aF=>exact (fun k_ hk=>Kd.freshB (g:=gb279) (o:=.cells #[.int .i64 (((bt (rdOf ByteArray.empty x3_1 x7_2) (ji24)) - 97) % 256),.int .i64 t280,.bool t278] 70 (0,0)) (by (with_reducible repeat first|apply bN|apply bD|apply bA);refine blk_put (cs:=#[.int .i64 (((bt (rdOf ByteArray.empty x3_1 x7_2) (ji24)) - 97) % 256),.int .i64 (-1),.bool t278]) ?_ 1 _ rfl;(with_reducible repeat first|apply bN|apply bD|apply bA);refine blk_put (cs:=#[.int .i64 (-1),.int .i64 (-1),.bool t278]) ?_ 0 _ rfl;(with_reducible repeat first|apply bN|apply bD|apply bA);refine blk_put (cs:=#[.int .i64 (-1),.int .i64 (-1),.bool false]) ?_ 2 _ rfl;(with_reducible repeat first|apply bN|apply bD|apply bA);refine blk_put (cs:=#[.int .i64 (-1),.int .i64 0,.bool false]) ?_ 1 _ rfl;(with_reducible repeat first|apply bN|apply bD|apply bA);refine blk_put (cs:=#[.int .i64 0,.int .i64 0,.bool false]) ?_ 0 _ rfl;(with_reducible repeat first|apply bN|apply bD|apply bA);exact BK279.out) k_ hk));(case aO=>exact (by (with_reducible repeat first|apply Kd.R_alloc|apply Kd.R_drewN|apply Kd.R_drew);exact Kd.R_mono (R_same_ (Kd.R_far (p:=⟨gb279,1,none⟩) (Kd.R_far (p:=⟨gb279,0,none⟩) (Kd.R_far (p:=⟨gb279,2,none⟩) (Kd.R_far (p:=⟨gb279,1,none⟩) (Kd.R_far (p:=⟨gb279,0,none⟩) (Kd.R_mono HO_277000.out (fun k_ hk=>(⟨hk,hk.2⟩:_∧k_ ≠ gb279))) (fun _ hk=>hk.2) (.int .i64 (-1))) (fun _ hk=>hk.2) (.int .i64 (-1))) (fun _ hk=>hk.2) (.bool t278)) (fun _ hk=>hk.2) (.int .i64 (((bt (rdOf ByteArray.empty x3_1 x7_2) (ji24)) - 97) % 256))) (fun _ hk=>hk.2) (.int .i64 t280)) rfl) (fun _ hk=>hk.1.2)));(case aS=>exact (qZ (by repeat (first|(with_reducible first|exact HB.out|apply qA|apply qN|apply q1_|refine qS ?_ GE264.out|refine qS ?_ GE276.out|refine qS ?_ GE279.out)|exact HB.out))));(case aL=>have:=LMc31.out;omega);intro v282 w39 ho hb hg hat;rw [← Ny281.out] at ho;have n0_:=Zz.mk (Kd.V_afterv (ok:=(fun k_=>k_ ≠ gb264∧k_ ≠ gb276∧k_ ≠ gb279)) (by (with_reducible repeat (first|apply Kd.V_alloc|apply Kd.V_drewN|apply Kd.V_drew));exact Kd.V_mono (V_same_ (Kd.V_far (p:=⟨gb279,1,none⟩) (Kd.V_far (p:=⟨gb279,0,none⟩) (Kd.V_far (p:=⟨gb279,2,none⟩) (Kd.V_far (p:=⟨gb279,1,none⟩) (Kd.V_far (p:=⟨gb279,0,none⟩) (Kd.V_mono HO_3.out (fun k_ hk=>(⟨hk,hk.2⟩:_∧k_ ≠ gb279))) (fun _ hk=>hk.2) (.int .i64 (-1))) (fun _ hk=>hk.2) (.int .i64 (-1))) (fun _ hk=>hk.2) (.bool t278)) (fun _ hk=>hk.2) (.int .i64 (((bt (rdOf ByteArray.empty x3_1 x7_2) (ji24)) - 97) % 256))) (fun _ hk=>hk.2) (.int .i64 t280)) rfl) (fun _ hk=>⟨⟨hk.1.1.2.1,⟨hk.1.1.2.2,hk.1.2⟩⟩,hk.1.1.1⟩)) hg hat);have n1_:=Zz.mk (blk_grown (g:=gb264) (o:=.cells #[.slice none 0 0] 31 (0,0)) (by (with_reducible repeat first|apply bN|apply bD|apply bA);refine blk_far ?_ NB264_279.out _;(with_reducible repeat first|apply bN|apply bD|apply bA);refine blk_far ?_ NB264_279.out _;(with_reducible repeat first|apply bN|apply bD|apply bA);refine blk_far ?_ NB264_279.out _;(with_reducible repeat first|apply bN|apply bD|apply bA);refine blk_far ?_ NB264_279.out _;(with_reducible repeat first|apply bN|apply bD|apply bA);refine blk_far ?_ NB264_279.out _;(with_reducible repeat first|apply bN|apply bD|apply bA);exact BK264.out) hg (Kd.R_ne HO_277000.out BK264.out (by decide)));have n2_:=Zz.mk (blk_grown (g:=gb276) (o:=.cells #[u277000] 31 (0,0)) (by (with_reducible repeat first|apply bN|apply bD|apply bA);refine blk_far ?_ NB276_279.out _;(with_reducible repeat first|apply bN|apply bD|apply bA);refine blk_far ?_ NB276_279.out _;(with_reducible repeat first|apply bN|apply bD|apply bA);refine blk_far ?_ NB276_279.out _;(with_reducible repeat first|apply bN|apply bD|apply bA);refine blk_far ?_ NB276_279.out _;(with_reducible repeat first|apply bN|apply bD|apply bA);refine blk_far ?_ NB276_279.out _;(with_reducible repeat first|apply bN|apply bD|apply bA);exact BK276.out) hg (Kd.R_ne HO_277000.out BK276.out (by decide)));have n3_:=Zz.mk (blk_grown (g:=gb279) (o:=.cells #[.int .i64 (((bt (rdOf ByteArray.empty x3_1 x7_2) (ji24)) - 97) % 256),.int .i64 t280,.bool t278] 70 (0,0)) (by (with_reducible repeat first|apply bN|apply bD|apply bA);refine blk_put (cs:=#[.int .i64 (((bt (rdOf ByteArray.empty x3_1 x7_2) (ji24)) - 97) % 256),.int .i64 (-1),.bool t278]) ?_ 1 _ rfl;(with_reducible repeat first|apply bN|apply bD|apply bA);refine blk_put (cs:=#[.int .i64 (-1),.int .i64 (-1),.bool t278]) ?_ 0 _ rfl;(with_reducible repeat first|apply bN|apply bD|apply bA);refine blk_put (cs:=#[.int .i64 (-1),.int .i64 (-1),.bool false]) ?_ 2 _ rfl;(with_reducible repeat first|apply bN|apply bD|apply bA);refine blk_put (cs:=#[.int .i64 (-1),.int .i64 0,.bool false]) ?_ 1 _ rfl;(with_reducible repeat first|apply bN|apply bD|apply bA);refine blk_put (cs:=#[.int .i64 0,.int .i64 0,.bool false]) ?_ 0 _ rfl;(with_reducible repeat first|apply bN|apply bD|apply bA);exact BK279.out) hg (Kd.R_away HO_277000.out (fun _ hk=>hk.2)));have n4_:=Zz.mk (hb);have n5_:=Zz.mk (ho);clear HO_3;clear BK264;clear BK276;clear BK279;clear HB;clear HO_277000;have HO_3:=n0_;have BK264:=n1_;have BK276:=n2_;have BK279:=n3_;have HB:=n4_;have HO283:=n5_;clear n0_ n1_ n2_ n3_ n4_ n5_;clear ho hb hg hat;obtain ⟨Ao40,co40,eo40⟩:=Kd.R_slice HO283.out;subst eo40;have hcz41_0:w39.cell? ⟨gb276,0,none⟩=some (u277000):=(bC BK276.out 0).trans rfl;have hfz41_0:=bF BK276.out 0))
             go_roundg k2
             case measure=>have:=HK1.out;have:=HK2.out;omega
             case rel=>exact ⟨(wrap64 (x7_2+1)),(y281),(.slice Ao40 y281.length co40),(by first|rfl|(simp;done)|(simp [*];done)),H',⟨by have:=HK1.out;have:=HK2.out;omega⟩,⟨by (with_reducible repeat (first|apply Kd.V_alloc|apply Kd.V_drewN|apply Kd.V_drew));exact Kd.V_mono (V_same_ (Kd.V_far (p:=⟨gb276,0,none⟩) (Kd.V_mono HO_3.out (fun k_ hk=>(⟨hk,hk.1.2.1⟩:_∧k_ ≠ gb276))) (fun _ hk=>hk.2) (.slice Ao40 y281.length co40)) rfl) (fun _ hk=>⟨hk.1.2,⟨hk.1.1.1,hk.1.1.2.1⟩⟩)⟩,⟨by (with_reducible repeat first|apply Kd.R_alloc|apply Kd.R_drewN|apply Kd.R_drew);exact Kd.R_mono (R_same_ (Kd.R_far (p:=⟨gb276,0,none⟩) (Kd.R_types HO283.out BK276.out (by decide)) (fun _ hk=>hk.2) (.slice Ao40 y281.length co40)) rfl) (fun _ hk=>trivial)⟩,⟨by (with_reducible repeat first|apply bN|apply bD|apply bA);refine blk_far ?_ NB264_276.out _;(with_reducible repeat first|apply bN|apply bD|apply bA);exact BK264.out⟩,⟨by (with_reducible repeat first|apply bN|apply bD|apply bA);refine blk_put (cs:=#[u277000]) ?_ 0 _ rfl;(with_reducible repeat first|apply bN|apply bD|apply bA);exact BK276.out⟩,⟨by repeat (first|(with_reducible first|exact HB.out|apply qA|apply qN|apply q1_|refine qS ?_ GE264.out|refine qS ?_ GE276.out|refine qS ?_ GE279.out)|exact HB.out)⟩⟩
            ·rw [if_neg c31] at H
             exact absurd H (by simp)
           ·rw [if_neg c29] at H
            exact absurd H (by simp)
          ·rw [if_neg c26] at H
           exact absurd H (by simp)
         ·rw [if_neg c25] at H
          exact absurd H (by simp)
        ·rw [if_neg c23] at H
         have c23b0:decide (0<x7_2)=false:=decide_eq_false c23
         clear c23
         by_cases c42:x277000_2.length<5864062014805
         ·rw [if_pos c42] at H
          have LMc42:=Zz.mk c42
          clear c42
          obtain ⟨y284,hy284⟩:∃ y_:List (S70),y_=(x277000_2 ++ [(⟨(-1),(-1),t278⟩:S70)]):=⟨_,rfl⟩
          replace H:(spec_l2Of.l2 k2 l0 x3_1 (wrap64 (x7_2+1)) y284)=some r:=by first|(rw [hy284];with_reducible exact H)|(have H2_:=(Option.bind_some _ _).symm.trans H;rw [hy284];with_reducible exact H2_)|(have H2_:=(Option.bind_some _ _).symm.trans H;with_reducible exact H2_)|with_reducible exact H|(rw [hy284];exact H)|exact H
          have Ny284:=Zz.mk hy284
          clear hy284
          have H':=Zz.mk H
          clear H
          obtain ⟨Ao43,co43,eo43⟩:=Kd.V_slice HO_3.out
          subst eo43
          have p277:0≤(x7_2:Int):=of_decide_eq_true (by first|(with_reducible assumption)|assumption)
          have q277:x7_2<(x3_1.length:Int):=of_decide_eq_true (by first|(with_reducible assumption)|assumption)
          obtain ⟨ad277,e277,hx277_0⟩:=Kd.at_string (Kd.V_reads' HO_3.out).2.2 x7_2 p277 q277
          cases e277
          replace p277:=eq_true p277
          replace q277:=eq_true q277
          go_wp2_with (first|((with_reducible refine gate_callee (f:=68) rfl ?_);refine goesL_ (some 48) rfl rfl Tryz.func68 (by kernel_rfl) rfl #[.slice A0 l0.length c0,.string (rdOf ByteArray.empty x3_1 x7_2)] rfl (by (try simp only [List.map_toArray,List.map_cons,List.map_nil]);first|done|rfl|(simp only [List.length_drop,List.length_take];rfl)) ?_;(with_reducible refine (spec_l2Has.calls k2 _ _ l0 (rdOf ByteArray.empty x3_1 x7_2) t278 _ ?side1 ?side2 A22.out).mono ?_);(case side1=>repeat (first|exact (Kd.C_below HR0.out HB.out)|(with_reducible refine Kd.C_alloc ?_ _)|(with_reducible refine Kd.C_drewN ?_ _)|(with_reducible refine Kd.C_drew ?_)));(case side2=>exact HC0.out);rintro e w' ⟨rfl,⟨nd,rfl⟩⟩;refine ⟨_,rfl,?_⟩;(try (rw [drewN_self wr];generalize hq_:World.drewN wr _=wr;have n0_:Zz (Kd.R k70 70 wr w.heap.size (fun _=>True) u277000 x277000_2):=⟨by rw [← hq_];exact (by (with_reducible repeat first|apply Kd.R_alloc|apply Kd.R_drewN|apply Kd.R_drew);exact HO_277000.out)⟩;have n1_:Zz (Kd.V Kd.string 9 wr w.heap.size (fun k_=>some k_ ≠ (u277000:Value).ownBlock∧k_ ≠ gb264∧k_ ≠ gb276) (.slice (some ad277) x3_1.length co43) x3_1):=⟨by rw [← hq_];exact (by (with_reducible repeat (first|apply Kd.V_alloc|apply Kd.V_drewN|apply Kd.V_drew));exact HO_3.out)⟩;have n2_:Zz (wr.heap[gb264]?=some (.cells #[.slice none 0 0] 31 (0,0))):=⟨by rw [← hq_];exact (by (with_reducible repeat first|apply bN|apply bD|apply bA);exact BK264.out)⟩;have n3_:Zz (wr.heap[gb276]?=some (.cells #[u277000] 31 (0,0))):=⟨by rw [← hq_];exact (by (with_reducible repeat first|apply bN|apply bD|apply bA);exact BK276.out)⟩;have n4_:Zz (Below w.heap.size w wr):=⟨by rw [← hq_];exact (by repeat (first|(with_reducible first|exact HB.out|apply qA|apply qN|apply q1_|refine qS ?_ GE264.out|refine qS ?_ GE276.out)|exact HB.out))⟩;clear HO_277000 HO_3 BK264 BK276 HB hq_;have HO_277000:=n0_;have HO_3:=n1_;have BK264:=n2_;have BK276:=n3_;have HB:=n4_;clear n0_ n1_ n2_ n3_ n4_)))|((with_reducible refine gate_dst (N:=9) rfl ?_);refine box_event ?hg (N:=9) ?hd (cs:=#[.int .i64 0,.int .i64 0,.bool false]) (t:=70) ?hr ?_;(case hd=>rfl);(case hg=>rfl);(case hr=>first|(go_simp;done)|(go_simp;rfl));intro gb279 hg w44 hbox hb;have n0_:=Zz.mk (Kd.V_below (Kd.V_elderB (by (with_reducible repeat (first|apply Kd.V_alloc|apply Kd.V_drewN|apply Kd.V_drew));exact HO_3.out) gb279 (Nat.le_of_eq hg.symm)) hb);have n1_:=Zz.mk (Kd.R_below (Kd.R_elderB (by (with_reducible repeat first|apply Kd.R_alloc|apply Kd.R_drewN|apply Kd.R_drew);exact HO_277000.out) gb279 (Nat.le_of_eq hg.symm)) hb);have n2_:=Zz.mk (bB (g:=gb264) (o:=.cells #[.slice none 0 0] 31 (0,0)) (by (with_reducible repeat first|apply bN|apply bD|apply bA);exact BK264.out) hb);have n3_:=Zz.mk (bB (g:=gb276) (o:=.cells #[u277000] 31 (0,0)) (by (with_reducible repeat first|apply bN|apply bD|apply bA);exact BK276.out) hb);have n4_:=Zz.mk (qP (by repeat (first|(with_reducible first|exact HB.out|apply qA|apply qN|apply q1_|refine qS ?_ GE264.out|refine qS ?_ GE276.out)|exact HB.out)) hb);have n5_:=Zz.mk (hbox);have n6_:=Zz.mk ((by rw [hg];exact (qZ (by repeat (first|(with_reducible first|exact HB.out|apply qA|apply qN|apply q1_|refine qS ?_ GE264.out|refine qS ?_ GE276.out)|exact HB.out))):w.heap.size≤gb279));have n7_:=Zz.mk ((by rw [hg];exact (qZ (by repeat (first|(with_reducible first|exact HB.out|apply qA|apply qN|apply q1_|refine qS ?_ GE264.out|refine qS ?_ GE276.out)|exact HB.out))):w.heap.size≤gb279));have n8_:=Zz.mk ((by rw [hg];exact Nat.ne_of_lt (blk_lt (g:=gb264) (o:=.cells #[.slice none 0 0] 31 (0,0)) (by (with_reducible repeat first|apply bN|apply bD|apply bA);exact BK264.out)):gb264 ≠ gb279));have n9_:=Zz.mk ((by rw [hg];exact Nat.ne_of_gt (blk_lt (g:=gb264) (o:=.cells #[.slice none 0 0] 31 (0,0)) (by (with_reducible repeat first|apply bN|apply bD|apply bA);exact BK264.out)):gb279 ≠ gb264));have n10_:=Zz.mk ((by rw [hg];exact Nat.ne_of_lt (blk_lt (g:=gb276) (o:=.cells #[u277000] 31 (0,0)) (by (with_reducible repeat first|apply bN|apply bD|apply bA);exact BK276.out)):gb276 ≠ gb279));have n11_:=Zz.mk ((by rw [hg];exact Nat.ne_of_gt (blk_lt (g:=gb276) (o:=.cells #[u277000] 31 (0,0)) (by (with_reducible repeat first|apply bN|apply bD|apply bA);exact BK276.out)):gb279 ≠ gb276));clear HO_3;clear HO_277000;clear BK264;clear BK276;clear HB;have HO_3:=n0_;have HO_277000:=n1_;have BK264:=n2_;have BK276:=n3_;have HB:=n4_;have BK279:=n5_;have GW279:=n6_;have GE279:=n7_;have NB264_279:=n8_;have NB279_264:=n9_;have NB276_279:=n10_;have NB279_276:=n11_;clear n0_ n1_ n2_ n3_ n4_ n5_ n6_ n7_ n8_ n9_ n10_ n11_;clear hb hbox hg;have hnb45:=NB279_264.out;have hnc45:=NB264_279.out;have hnb46:=NB279_276.out;have hnc46:=NB276_279.out;have hcz47_0:w44.cell? ⟨gb279,0,none⟩=some (.int .i64 0):=(bC BK279.out 0).trans rfl;have hcz47_1:w44.cell? ⟨gb279,1,none⟩=some (.int .i64 0):=(bC BK279.out 1).trans rfl;have hcz47_2:w44.cell? ⟨gb279,2,none⟩=some (.bool false):=(bC BK279.out 2).trans rfl;have hfz47_0:=bF BK279.out 0;have hfz47_1:=bF BK279.out 1;have hfz47_2:=bF BK279.out 2;have hnb48:=NB276_264.out;have hnc48:=NB264_276.out;have hcz49_0:w44.cell? ⟨gb276,0,none⟩=some (u277000):=(bC BK276.out 0).trans rfl;have hfz49_0:=bF BK276.out 0)|((with_reducible refine gate_builtin (b:=.append) (xs:=#[.tmp 69,.tmp 71]) rfl ?_);at_builtin;refine Kd.R_append k70 (w0:=w) w.heap.size rfl (.tmp 69) (.tmp 71) 29 70 (.agg #[(.int .i64 0),(.int .i64 0),(.bool false)]) 24 rfl Tryz.underlying29 info70 rfl (by decide) (by omega) u277000 x277000_2 (⟨(-1),(-1),t278⟩:S70) [.int .i64 (-1),.int .i64 (-1),.bool t278] (fun k_=>k_ ≠ gb279) (fun _=>False) rfl (by first|(go_simp;done)|(go_simp;rfl)) ?aP (fun _ hk=>hk.elim) ?aF ?aO ?aB ?aS ?aL ?_;(case aP=>exact k70_mkM _ _ _ (⟨(-1),(-1),t278⟩:S70));(case aB=>exact (by repeat (first|(with_reducible first|exact HB.out|apply qA|apply qN|apply q1_|refine qS ?_ GE264.out|refine qS ?_ GE276.out|refine qS ?_ GE279.out)|exact HB.out)));(case aF=>exact (fun k_ hk=>Kd.freshB (g:=gb279) (o:=.cells #[.int .i64 (-1),.int .i64 (-1),.bool t278] 70 (0,0)) (by (with_reducible repeat first|apply bN|apply bD|apply bA);refine blk_put (cs:=#[.int .i64 (-1),.int .i64 (-1),.bool false]) ?_ 2 _ rfl;(with_reducible repeat first|apply bN|apply bD|apply bA);refine blk_put (cs:=#[.int .i64 (-1),.int .i64 0,.bool false]) ?_ 1 _ rfl;(with_reducible repeat first|apply bN|apply bD|apply bA);refine blk_put (cs:=#[.int .i64 0,.int .i64 0,.bool false]) ?_ 0 _ rfl;(with_reducible repeat first|apply bN|apply bD|apply bA);exact BK279.out) k_ hk));(case aO=>exact (by (with_reducible repeat first|apply Kd.R_alloc|apply Kd.R_drewN|apply Kd.R_drew);exact Kd.R_mono (R_same_ (Kd.R_far (p:=⟨gb279,2,none⟩) (Kd.R_far (p:=⟨gb279,1,none⟩) (Kd.R_far (p:=⟨gb279,0,none⟩) (Kd.R_mono HO_277000.out (fun k_ hk=>(⟨hk,hk.2⟩:_∧k_ ≠ gb279))) (fun _ hk=>hk.2) (.int .i64 (-1))) (fun _ hk=>hk.2) (.int .i64 (-1))) (fun _ hk=>hk.2) (.bool t278)) rfl) (fun _ hk=>hk.1.2)));(case aS=>exact (qZ (by repeat (first|(with_reducible first|exact HB.out|apply qA|apply qN|apply q1_|refine qS ?_ GE264.out|refine qS ?_ GE276.out|refine qS ?_ GE279.out)|exact HB.out))));(case aL=>have:=LMc42.out;omega);intro v285 w50 ho hb hg hat;rw [← Ny284.out] at ho;have n0_:=Zz.mk (Kd.V_afterv (ok:=(fun k_=>k_ ≠ gb264∧k_ ≠ gb276∧k_ ≠ gb279)) (by (with_reducible repeat (first|apply Kd.V_alloc|apply Kd.V_drewN|apply Kd.V_drew));exact Kd.V_mono (V_same_ (Kd.V_far (p:=⟨gb279,2,none⟩) (Kd.V_far (p:=⟨gb279,1,none⟩) (Kd.V_far (p:=⟨gb279,0,none⟩) (Kd.V_mono HO_3.out (fun k_ hk=>(⟨hk,hk.2⟩:_∧k_ ≠ gb279))) (fun _ hk=>hk.2) (.int .i64 (-1))) (fun _ hk=>hk.2) (.int .i64 (-1))) (fun _ hk=>hk.2) (.bool t278)) rfl) (fun _ hk=>⟨⟨hk.1.1.2.1,⟨hk.1.1.2.2,hk.1.2⟩⟩,hk.1.1.1⟩)) hg hat);have n1_:=Zz.mk (blk_grown (g:=gb264) (o:=.cells #[.slice none 0 0] 31 (0,0)) (by (with_reducible repeat first|apply bN|apply bD|apply bA);refine blk_far ?_ NB264_279.out _;(with_reducible repeat first|apply bN|apply bD|apply bA);refine blk_far ?_ NB264_279.out _;(with_reducible repeat first|apply bN|apply bD|apply bA);refine blk_far ?_ NB264_279.out _;(with_reducible repeat first|apply bN|apply bD|apply bA);exact BK264.out) hg (Kd.R_ne HO_277000.out BK264.out (by decide)));have n2_:=Zz.mk (blk_grown (g:=gb276) (o:=.cells #[u277000] 31 (0,0)) (by (with_reducible repeat first|apply bN|apply bD|apply bA);refine blk_far ?_ NB276_279.out _;(with_reducible repeat first|apply bN|apply bD|apply bA);refine blk_far ?_ NB276_279.out _;(with_reducible repeat first|apply bN|apply bD|apply bA);refine blk_far ?_ NB276_279.out _;(with_reducible repeat first|apply bN|apply bD|apply bA);exact BK276.out) hg (Kd.R_ne HO_277000.out BK276.out (by decide)));have n3_:=Zz.mk (blk_grown (g:=gb279) (o:=.cells #[.int .i64 (-1),.int .i64 (-1),.bool t278] 70 (0,0)) (by (with_reducible repeat first|apply bN|apply bD|apply bA);refine blk_put (cs:=#[.int .i64 (-1),.int .i64 (-1),.bool false]) ?_ 2 _ rfl;(with_reducible repeat first|apply bN|apply bD|apply bA);refine blk_put (cs:=#[.int .i64 (-1),.int .i64 0,.bool false]) ?_ 1 _ rfl;(with_reducible repeat first|apply bN|apply bD|apply bA);refine blk_put (cs:=#[.int .i64 0,.int .i64 0,.bool false]) ?_ 0 _ rfl;(with_reducible repeat first|apply bN|apply bD|apply bA);exact BK279.out) hg (Kd.R_away HO_277000.out (fun _ hk=>hk.2)));have n4_:=Zz.mk (hb);have n5_:=Zz.mk (ho);clear HO_3;clear BK264;clear BK276;clear BK279;clear HB;clear HO_277000;have HO_3:=n0_;have BK264:=n1_;have BK276:=n2_;have BK279:=n3_;have HB:=n4_;have HO286:=n5_;clear n0_ n1_ n2_ n3_ n4_ n5_;clear ho hb hg hat;obtain ⟨Ao51,co51,eo51⟩:=Kd.R_slice HO286.out;subst eo51;have hcz52_0:w50.cell? ⟨gb276,0,none⟩=some (u277000):=(bC BK276.out 0).trans rfl;have hfz52_0:=bF BK276.out 0))
          go_roundg k2
          case measure=>have:=HK1.out;have:=HK2.out;omega
          case rel=>exact ⟨(wrap64 (x7_2+1)),(y284),(.slice Ao51 y284.length co51),(by first|rfl|(simp;done)|(simp [*];done)),H',⟨by have:=HK1.out;have:=HK2.out;omega⟩,⟨by (with_reducible repeat (first|apply Kd.V_alloc|apply Kd.V_drewN|apply Kd.V_drew));exact Kd.V_mono (V_same_ (Kd.V_far (p:=⟨gb276,0,none⟩) (Kd.V_mono HO_3.out (fun k_ hk=>(⟨hk,hk.1.2.1⟩:_∧k_ ≠ gb276))) (fun _ hk=>hk.2) (.slice Ao51 y284.length co51)) rfl) (fun _ hk=>⟨hk.1.2,⟨hk.1.1.1,hk.1.1.2.1⟩⟩)⟩,⟨by (with_reducible repeat first|apply Kd.R_alloc|apply Kd.R_drewN|apply Kd.R_drew);exact Kd.R_mono (R_same_ (Kd.R_far (p:=⟨gb276,0,none⟩) (Kd.R_types HO286.out BK276.out (by decide)) (fun _ hk=>hk.2) (.slice Ao51 y284.length co51)) rfl) (fun _ hk=>trivial)⟩,⟨by (with_reducible repeat first|apply bN|apply bD|apply bA);refine blk_far ?_ NB264_276.out _;(with_reducible repeat first|apply bN|apply bD|apply bA);exact BK264.out⟩,⟨by (with_reducible repeat first|apply bN|apply bD|apply bA);refine blk_put (cs:=#[u277000]) ?_ 0 _ rfl;(with_reducible repeat first|apply bN|apply bD|apply bA);exact BK276.out⟩,⟨by repeat (first|(with_reducible first|exact HB.out|apply qA|apply qN|apply q1_|refine qS ?_ GE264.out|refine qS ?_ GE276.out|refine qS ?_ GE279.out)|exact HB.out)⟩⟩
         ·rw [if_neg c42] at H
          exact absurd H (by simp)
       ·rw [if_neg c21] at H
        exact absurd H (by simp)
      ·rw [if_neg c20] at H
       have c20b0:decide (x7_2<(x3_1.length:Int))=false:=decide_eq_false c20
       clear c20
       obtain rfl:=Option.some.inj H
       obtain ⟨Ao53,co53,eo53⟩:=Kd.V_slice HO_3.out
       subst eo53
       have hnb54:=NB276_264.out
       have hnc54:=NB264_276.out
       have hcz55_0:wr.cell? ⟨gb276,0,none⟩=some (u277000):=(bC BK276.out 0).trans rfl
       have hfz55_0:=bF BK276.out 0
       obtain ⟨Ao56,co56,eo56⟩:=Kd.R_slice HO_277000.out
       subst eo56
       have hcz57_0:wr.cell? ⟨gb264,0,none⟩=some (.slice none 0 0):=(bC BK264.out 0).trans rfl
       have hfz57_0:=bF BK264.out 0
       go_wp2
       refine bodyPost_ret (results_cell_row rfl _ _ gb264 31 #[.slice Ao56 x277000_2.length co56] (0,0) _ rfl (by (with_reducible repeat first|apply bN|apply bD|apply bA);refine blk_put (cs:=#[.slice none 0 0]) ?_ 0 _ rfl;(with_reducible repeat first|apply bN|apply bD|apply bA);exact BK264.out) Tryz.underlying31 rfl (by kernel_rfl)) rfl ?_
       exact ⟨_,by first|rfl|(simp [errW_none,errW_some] <;> rfl)|(simp [*,errW_none,errW_some] <;> rfl),by (with_reducible repeat first|apply Kd.R_alloc|apply Kd.R_drewN|apply Kd.R_drew);exact Kd.R_mono (R_same_ (Kd.R_far (p:=⟨gb264,0,none⟩) (Kd.R_types HO_277000.out BK264.out (by decide)) (fun _ hk=>hk.2) (.slice Ao56 x277000_2.length co56)) rfl) (fun _ hk=>trivial),by repeat (first|(with_reducible first|exact HB.out|apply qA|apply qN|apply q1_|refine qS ?_ GE264.out|refine qS ?_ GE276.out)|exact HB.out)⟩
def spec_l2Trie.f (k:Nat) (l0_0:List (S70)):Option (Bool):=(spec_l1In.f (l0_0.length:Int) 1 481).bind fun t288=>(if t288=true then ((spec_l2Words.f k l0_0).bind fun t289=>((spec_l2Set.f k t289).bind fun bt292=>(if bt292.2=true then ((spec_l2Of.f k bt292.1).bind fun t296=>((spec_l2Same.f k t296 l0_0).bind fun t299=>(some t299))) else (some false)))) else (some false))
def spec_l2Trie.T4:Bool × List (List Nat × List Nat):=(true,[([],[]),([0],[0]),([1],[1]),([2,1,1],[1,2]),([1],[1]),([3,4,3,1],[1,3,4]),([1,5],[1,5]),([6,5,0,1,2,3,4,5,6],[6])])
def spec_l2Trie.B4:List Nat:=[0,1,3,7,3,31,63,127]
theorem spec_l2Trie.tab4:rtab .any (opsOf Tryz.f39 4)=spec_l2Trie.T4:=by kernel_rfl
theorem spec_l2Trie.bits4:waitsOk spec_l2Trie.T4.2 spec_l2Trie.B4=true:=by kernel_rfl
set_option maxHeartbeats 8000000 in
set_option maxRecDepth 100000 in
theorem spec_l2Trie.calls (k:Nat) (A0_0:Option Addr) (c0_0:Nat) (l0_0:List (S70)) (r:Bool) (w:World) (hr0_0:Kd.C k70 w A0_0 l0_0.length l0_0) (hc0_0:l0_0.length≤c0_0) (h:spec_l2Trie.f k l0_0=some r) :
  Calls Tryz.prog 39 #[.agg #[.slice A0_0 l0_0.length c0_0]] w fun e w'=>e=.returned (.bool r)∧Below w.heap.size w w':=by
 have hu31:=Tryz.underlying31
 have HR0_0:=Zz.mk hr0_0
 have HC0_0:=Zz.mk hc0_0
 clear hr0_0 hc0_0
 have HB:=Zz.mk (Below.refl w.heap.size w)
 have H:((spec_l1In.f (l0_0.length:Int) 1 481).bind fun t288=>(if t288=true then ((spec_l2Words.f k l0_0).bind fun t289=>((spec_l2Set.f k t289).bind fun bt292=>(if bt292.2=true then ((spec_l2Of.f k bt292.1).bind fun t296=>((spec_l2Same.f k t296 l0_0).bind fun t299=>(some t299))) else (some false)))) else (some false)))=some r:=h
 clear h
 replace H:=Option.bind_eq_some_iff.mp H
 obtain ⟨t288,A20,H⟩:=H
 replace H:(if t288=true then ((spec_l2Words.f k l0_0).bind fun t289=>((spec_l2Set.f k t289).bind fun bt292=>(if bt292.2=true then ((spec_l2Of.f k bt292.1).bind fun t296=>((spec_l2Same.f k t296 l0_0).bind fun t299=>(some t299))) else (some false)))) else (some false))=some r:=H
 have A2:=Zz.mk A20
 clear A20
 by_cases c3:t288=true
 ·subst c3
  have H1:((spec_l2Words.f k l0_0).bind fun t289=>((spec_l2Set.f k t289).bind fun bt292=>(if bt292.2=true then ((spec_l2Of.f k bt292.1).bind fun t296=>((spec_l2Same.f k t296 l0_0).bind fun t299=>(some t299))) else (some false))))=some r:=by rw [if_pos rfl] at H;exact H
  clear H
  have H:=H1
  clear H1
  replace H:=Option.bind_eq_some_iff.mp H
  obtain ⟨t289,A40,H⟩:=H
  replace H:((spec_l2Set.f k t289).bind fun bt292=>(if bt292.2=true then ((spec_l2Of.f k bt292.1).bind fun t296=>((spec_l2Same.f k t296 l0_0).bind fun t299=>(some t299))) else (some false)))=some r:=H
  have A4:=Zz.mk A40
  clear A40
  replace H:=Option.bind_eq_some_iff.mp H
  obtain ⟨⟨t292,t295⟩,A50,H⟩:=H
  replace H:(if t295=true then ((spec_l2Of.f k t292).bind fun t296=>((spec_l2Same.f k t296 l0_0).bind fun t299=>(some t299))) else (some false))=some r:=H
  have A5:=Zz.mk A50
  clear A50
  by_cases c6:t295=true
  ·subst c6
   have H1:((spec_l2Of.f k t292).bind fun t296=>((spec_l2Same.f k t296 l0_0).bind fun t299=>(some t299)))=some r:=by rw [if_pos rfl] at H;exact H
   clear H
   have H:=H1
   clear H1
   replace H:=Option.bind_eq_some_iff.mp H
   obtain ⟨t296,A70,H⟩:=H
   replace H:((spec_l2Same.f k t296 l0_0).bind fun t299=>(some t299))=some r:=H
   have A7:=Zz.mk A70
   clear A70
   replace H:=Option.bind_eq_some_iff.mp H
   obtain ⟨t299,A80,H⟩:=H
   replace H:(some t299)=some r:=H
   have A8:=Zz.mk A80
   clear A80
   obtain rfl:=Option.some.inj H
   go_enter Tryz.func39,Tryz.ntmps39
   try go_wp2_with (first|((with_reducible refine gate_dst (N:=1) rfl ?_);refine box_event ?hg (N:=1) ?hd (cs:=#[.slice A0_0 l0_0.length c0_0]) (t:=31) ?hr ?_;(case hd=>rfl);(case hg=>rfl);(case hr=>first|(go_simp;done)|(go_simp;rfl));intro gb287 hg w9 hbox hb;have n0_:=Zz.mk (qP (by repeat (first|(with_reducible first|exact HB.out|apply qA|apply qN|apply q1_)|exact HB.out)) hb);have n1_:=Zz.mk (hbox);have n2_:=Zz.mk ((by rw [hg];exact (qZ (by repeat (first|(with_reducible first|exact HB.out|apply qA|apply qN|apply q1_)|exact HB.out))):w.heap.size≤gb287));have n3_:=Zz.mk ((by rw [hg];exact (qZ (by repeat (first|(with_reducible first|exact HB.out|apply qA|apply qN|apply q1_)|exact HB.out))):w.heap.size≤gb287));clear HB;have HB:=n0_;have BK287:=n1_;have GW287:=n2_;have GE287:=n3_;clear n0_ n1_ n2_ n3_;clear hb hbox hg;have hcz10_0:w9.cell? ⟨gb287,0,none⟩=some (.slice A0_0 l0_0.length c0_0):=(bC BK287.out 0).trans rfl;have hfz10_0:=bF BK287.out 0)|((with_reducible refine gate_callee (f:=52) rfl ?_);refine goesL_ (some 8) rfl rfl Tryz.func52 (by kernel_rfl) rfl #[.int .i64 (l0_0.length:Int),.int .i64 1,.int .i64 481] rfl (by (try simp only [List.map_toArray,List.map_cons,List.map_nil]);first|done|rfl|(simp only [List.length_drop,List.length_take];rfl)) ?_;(with_reducible refine (spec_l1In.calls (l0_0.length:Int) 1 481 true _ A2.out).mono ?_);rintro e w' ⟨rfl,⟨nd,rfl⟩⟩;refine ⟨_,rfl,?_⟩)|((with_reducible refine gate_callee (f:=27) rfl ?_);refine goesL_ (some 12) rfl rfl Tryz.func27 (by kernel_rfl) rfl #[.agg #[.slice A0_0 l0_0.length c0_0]] rfl (by (try simp only [List.map_toArray,List.map_cons,List.map_nil]);first|done|rfl|(simp only [List.length_drop,List.length_take];rfl)) ?_;(with_reducible refine (spec_l2Words.calls k _ _ l0_0 t289 _ ?side1 ?side2 A4.out).mono ?_);(case side1=>repeat (first|exact (Kd.C_below HR0_0.out (by repeat (first|(with_reducible first|exact HB.out|apply qA|apply qN|apply q1_|refine qS ?_ GE287.out)|exact HB.out)))|(with_reducible refine Kd.C_alloc ?_ _)|(with_reducible refine Kd.C_drewN ?_ _)|(with_reducible refine Kd.C_drew ?_)));(case side2=>exact HC0_0.out);rintro e w11 ⟨v290,rfl,ho0,hb⟩;refine ⟨_,rfl,?_⟩;have n0_:=Zz.mk (Kd.R_lower ho0 (qZ (by repeat (first|(with_reducible first|exact HB.out|apply qA|apply qN|apply q1_|refine qS ?_ GE287.out)|exact HB.out))));have n1_:=Zz.mk (bB (g:=gb287) (o:=.cells #[.slice A0_0 l0_0.length c0_0] 31 (0,0)) (by (with_reducible repeat first|apply bN|apply bD|apply bA);exact BK287.out) hb);have n2_:=Zz.mk (qP (by repeat (first|(with_reducible first|exact HB.out|apply qA|apply qN|apply q1_|refine qS ?_ GE287.out)|exact HB.out)) hb);clear BK287;clear HB;have HO291:=n0_;have BK287:=n1_;have HB:=n2_;clear n0_ n1_ n2_;(try clear hb);(try clear hb2);(try clear hk);(try clear hi);(try clear ho0);obtain ⟨Ao12,co12,eo12⟩:=Kd.R_slice HO291.out;subst eo12)|((with_reducible refine gate_callee (f:=53) rfl ?_);refine goesL_ (some 13) rfl rfl Tryz.func53 (by kernel_rfl) rfl #[.slice Ao12 t289.length co12] rfl (by (try simp only [List.map_toArray,List.map_cons,List.map_nil]);first|done|rfl|(simp only [List.length_drop,List.length_take];rfl)) ?_;(with_reducible refine (spec_l2Set.calls k _ _ t289 t292 true _ ?side1 ?side2 A5.out).mono ?_);(case side1=>repeat (first|exact (Kd.R_reads' HO291.out).2.2|(with_reducible refine Kd.C_alloc ?_ _)|(with_reducible refine Kd.C_drewN ?_ _)|(with_reducible refine Kd.C_drew ?_)));(case side2=>exact (Kd.R_reads' HO291.out).2.1);rintro e w13 ⟨v293,rfl,ho0,hb⟩;refine ⟨_,rfl,?_⟩;have n0_:=Zz.mk (Kd.R_below (by (with_reducible repeat first|apply Kd.R_alloc|apply Kd.R_drewN|apply Kd.R_drew);exact HO291.out) hb);have n1_:=Zz.mk (Kd.V_lower (Kd.V_mono (ok':=fun k_=>some k_ ≠ (.slice Ao12 t289.length co12:Value).ownBlock∧k_ ≠ gb287) ho0 (fun k_ hk_=>⟨(Kd.fresh' (Kd.R_lt (by (with_reducible repeat first|apply Kd.R_alloc|apply Kd.R_drewN|apply Kd.R_drew);exact HO291.out)) k_ hk_),(Kd.freshB (g:=gb287) (o:=.cells #[.slice A0_0 l0_0.length c0_0] 31 (0,0)) (by (with_reducible repeat first|apply bN|apply bD|apply bA);exact BK287.out) k_ hk_)⟩)) (qZ (by repeat (first|(with_reducible first|exact HB.out|apply qA|apply qN|apply q1_|refine qS ?_ GE287.out)|exact HB.out))));have n2_:=Zz.mk (bB (g:=gb287) (o:=.cells #[.slice A0_0 l0_0.length c0_0] 31 (0,0)) (by (with_reducible repeat first|apply bN|apply bD|apply bA);exact BK287.out) hb);have n3_:=Zz.mk (qP (by repeat (first|(with_reducible first|exact HB.out|apply qA|apply qN|apply q1_|refine qS ?_ GE287.out)|exact HB.out)) hb);clear HO291;clear BK287;clear HB;have HO291:=n0_;have HO294:=n1_;have BK287:=n2_;have HB:=n3_;clear n0_ n1_ n2_ n3_;(try clear hb);(try clear hb2);(try clear hk);(try clear hi);(try clear ho0)))
   have n0_:=Zz.mk (Kd.R_drew HO291.out)
   have n1_:=Zz.mk (Kd.V_drew HO294.out)
   have n2_:=Zz.mk (bD BK287.out)
   have n3_:=Zz.mk (q1_ HB.out)
   revert n0_ n1_ n2_ n3_
   clear HO291 HO294 BK287 HB
   intro HO291 HO294 BK287 HB
   obtain ⟨Ao15,co15,eo15⟩:=Kd.V_slice HO294.out
   (first|subst eo15|(injection eo15 with f1_ f2_ f3_;have f4_:=f1_.symm;have f5_:=f3_.symm;clear f1_ f2_ f3_;subst f4_;subst f5_))
   refine start_ (n:=8) (S:=fun w'=>w'.cell? ⟨gb287,0,none⟩=some (.slice A0_0 l0_0.length c0_0)) (ds:=[]) #[false,false,false,false,false,false,false,false] (by kernel_rfl) rfl rfl ((bC BK287.out 0).trans rfl) (fun hHeld=>?_);refine with_tabW spec_l2Trie.tab4 spec_l2Trie.bits4 (fun HT_ HW_=>?_)
   generalize w13.drew=w14 at HO291 HO294 BK287 HB hHeld ⊢
   refine pure_ (i:=0) (N:=some 16) (v:=?_) (a':=?_) #[true,false,false,false,false,false,false,false] rfl rfl (any_of HT_.out (by kernel_rfl)) (fun _ _ _ h=>h) (Or.inl ⟨by rfl,?_⟩) ?_ ?_
   rotate_left
   ·intro w'
    go_simp
    with_reducible rfl
   rotate_left
   ·simp only [Act.put,List.setIfInBounds_toArray,List.set_cons_zero,List.set_cons_succ,i64_w,i32_w]
    rfl
   refine pure_ (i:=1) (N:=some 17) (v:=?_) (a':=?_) #[true,true,false,false,false,false,false,false] rfl rfl (any_of HT_.out (by kernel_rfl)) (fun _ _ _ h=>h) (Or.inl ⟨by rfl,?_⟩) ?_ ?_
   rotate_left
   ·intro w'
    go_simp
    with_reducible rfl
   rotate_left
   ·simp only [Act.put,List.setIfInBounds_toArray,List.set_cons_zero,List.set_cons_succ,i64_w,i32_w]
    rfl
   refine pure_ (i:=2) (N:=some 18) (v:=?_) (a':=?_) #[true,true,true,false,false,false,false,false] rfl rfl (any_of HT_.out (by kernel_rfl)) (fun _ _ _ h=>h) (Or.inl ⟨by rfl,?_⟩) ?_ ?_
   rotate_left
   ·intro w'
    go_simp
    with_reducible rfl
   rotate_left
   ·simp only [Act.put,List.setIfInBounds_toArray,List.set_cons_zero,List.set_cons_succ,i64_w,i32_w]
    rfl
   refine take_ (i:=4) (N:=some 20) (v:=?_) (a':=?_) #[true,true,true,false,true,false,false,false] rfl rfl (take_ofW HT_.out HW_.out (by kernel_rfl)) (fun _ _ _ h=>h) (Or.inl ⟨by rfl,?_⟩) hHeld ?_ ?_
   rotate_left
   ·intro w' s0
    go_simp
    with_reducible rfl
   rotate_left
   ·simp only [Act.put,List.setIfInBounds_toArray,List.set_cons_zero,List.set_cons_succ,i64_w,i32_w]
    rfl
   refine one_ (i:=3) (N:=some 19) #[true,true,true,true,true,false,false,false] rfl rfl (one_of HT_.out (by kernel_rfl)) (by decide) (fun K hK=>?_)
   refine goes_ Tryz.func55 (by kernel_rfl) rfl #[.slice Ao15 t292.length co15] (by rfl) rfl rfl (by (try simp only [List.map_toArray,List.map_cons,List.map_nil]);first|done|rfl|(simp only [List.length_drop,List.length_take];rfl)) ?_
   with_reducible refine (spec_l2Of.calls k _ _ t292 t296 _ ?side1 ?side2 A7.out).mono ?_
   (case side1=>exact (Kd.V_reads' HO294.out).2.2)
   (case side2=>exact (Kd.V_reads' HO294.out).2.1)
   rintro e w16 ⟨v297,rfl,ho0,hb⟩
   refine ⟨_,rfl,?_⟩
   have n0_:=Zz.mk (Kd.R_below HO291.out hb)
   have n1_:=Zz.mk (Kd.V_elder' (by (with_reducible repeat (first|apply Kd.V_alloc|apply Kd.V_drewN|apply Kd.V_drew));exact HO294.out) (Kd.R_base ho0) hb)
   have n2_:=Zz.mk (Kd.R_lower ho0 (qZ HB.out))
   have n3_:=Zz.mk (bB BK287.out hb)
   have n4_:=Zz.mk (qP HB.out hb)
   revert n0_ n1_ n2_ n3_ n4_
   clear HO291 HO294 BK287 HB
   intro HO291 HO294 HO298 BK287 HB
   (try clear hb)
   (try clear hb2)
   (try clear hk)
   (try clear hi)
   (try clear ho0)
   obtain ⟨Ao17,co17,eo17⟩:=Kd.R_slice HO298.out
   (first|subst eo17|(injection eo17 with f1_ f2_ f3_;have f4_:=f1_.symm;have f5_:=f3_.symm;clear f1_ f2_ f3_;subst f4_;subst f5_))
   refine hK.out _ _ ((bC BK287.out 0).trans rfl) (fun hHeld=>?_)
   clear hK K
   refine norm_ (a':=?_) ?_ ?_
   rotate_left
   ·show Act.put _ (some 19) _=_
    simp only [Act.put,List.setIfInBounds_toArray,List.set_cons_zero,List.set_cons_succ,i64_w,i32_w]
    rfl
   refine one_ (i:=5) (N:=some 21) #[true,true,true,true,true,true,false,false] rfl rfl (one_of HT_.out (by kernel_rfl)) (by decide) (fun K hK=>?_)
   refine goes_ Tryz.func54 (by kernel_rfl) rfl #[.agg #[.slice Ao17 t296.length co17],.agg #[.slice A0_0 l0_0.length c0_0]] (by rfl) rfl rfl (by (try simp only [List.map_toArray,List.map_cons,List.map_nil]);first|done|rfl|(simp only [List.length_drop,List.length_take];rfl)) ?_
   with_reducible refine (spec_l2Same.calls k _ _ t296 _ _ l0_0 t299 _ ?side1 ?side2 ?side3 ?side4 A8.out).mono ?_
   (case side1=>exact (Kd.R_reads' HO298.out).2.2)
   (case side2=>exact (Kd.R_reads' HO298.out).2.1)
   (case side3=>exact (Kd.C_below HR0_0.out HB.out))
   (case side4=>exact HC0_0.out)
   rintro e w18 ⟨rfl,hb⟩
   refine ⟨_,rfl,?_⟩
   have n0_:=Zz.mk (Kd.R_below HO291.out hb)
   have n1_:=Zz.mk (Kd.V_below (by (with_reducible repeat (first|apply Kd.V_alloc|apply Kd.V_drewN|apply Kd.V_drew));exact HO294.out) hb)
   have n2_:=Zz.mk (Kd.R_below HO298.out hb)
   have n3_:=Zz.mk (bB BK287.out hb)
   have n4_:=Zz.mk (qP HB.out hb)
   revert n0_ n1_ n2_ n3_ n4_
   clear HO291 HO294 HO298 BK287 HB
   intro HO291 HO294 HO298 BK287 HB
   (try clear hb)
   (try clear hb2)
   (try clear hk)
   (try clear hi)
   refine hK.out _ _ ((bC BK287.out 0).trans rfl) (fun hHeld=>?_)
   clear hK K
   refine norm_ (a':=?_) ?_ ?_
   rotate_left
   ·show Act.put _ (some 21) _=_
    simp only [Act.put,List.setIfInBounds_toArray,List.set_cons_zero,List.set_cons_succ,i64_w,i32_w]
    rfl
   refine pure_ (i:=6) (N:=some 22) (v:=?_) (a':=?_) #[true,true,true,true,true,true,true,false] rfl rfl (any_of HT_.out (by kernel_rfl)) (fun _ _ _ h=>h) (Or.inl ⟨by rfl,?_⟩) ?_ ?_
   rotate_left
   ·intro w'
    go_simp
    with_reducible rfl
   rotate_left
   ·simp only [Act.put,List.setIfInBounds_toArray,List.set_cons_zero,List.set_cons_succ,i64_w,i32_w]
    rfl
   refine pure_ (i:=7) (N:=some 2) (v:=?_) (a':=?_) #[true,true,true,true,true,true,true,true] rfl rfl (any_of HT_.out (by kernel_rfl)) (fun _ _ _ h=>h) (Or.inl ⟨by rfl,?_⟩) ?_ ?_
   rotate_left
   ·intro w'
    go_simp
    with_reducible rfl
   rotate_left
   ·simp only [Act.put,List.setIfInBounds_toArray,List.set_cons_zero,List.set_cons_succ,i64_w,i32_w]
    rfl
   refine done_ (done_of HT_.out (by kernel_rfl)) ?_
   try go_wp2
   go_ret
   exact ⟨by first|rfl|(simp [errW_none,errW_some] <;> rfl)|(simp [*,errW_none,errW_some] <;> rfl),by repeat (first|(with_reducible first|exact HB.out|apply qA|apply qN|apply q1_|refine qS ?_ GE287.out)|exact HB.out)⟩
  ·replace c6:=Bool.eq_false_iff.mpr c6
   subst c6
   have H1:(some false)=some r:=by rw [if_neg (show ¬ (false=true) by decide)] at H;exact H
   clear H
   have H:=H1
   clear H1
   obtain rfl:=Option.some.inj H
   go_enter Tryz.func39,Tryz.ntmps39
   try go_wp2_with (first|((with_reducible refine gate_dst (N:=1) rfl ?_);refine box_event ?hg (N:=1) ?hd (cs:=#[.slice A0_0 l0_0.length c0_0]) (t:=31) ?hr ?_;(case hd=>rfl);(case hg=>rfl);(case hr=>first|(go_simp;done)|(go_simp;rfl));intro gb287 hg w19 hbox hb;have n0_:=Zz.mk (qP (by repeat (first|(with_reducible first|exact HB.out|apply qA|apply qN|apply q1_)|exact HB.out)) hb);have n1_:=Zz.mk (hbox);have n2_:=Zz.mk ((by rw [hg];exact (qZ (by repeat (first|(with_reducible first|exact HB.out|apply qA|apply qN|apply q1_)|exact HB.out))):w.heap.size≤gb287));have n3_:=Zz.mk ((by rw [hg];exact (qZ (by repeat (first|(with_reducible first|exact HB.out|apply qA|apply qN|apply q1_)|exact HB.out))):w.heap.size≤gb287));clear HB;have HB:=n0_;have BK287:=n1_;have GW287:=n2_;have GE287:=n3_;clear n0_ n1_ n2_ n3_;clear hb hbox hg;have hcz20_0:w19.cell? ⟨gb287,0,none⟩=some (.slice A0_0 l0_0.length c0_0):=(bC BK287.out 0).trans rfl;have hfz20_0:=bF BK287.out 0)|((with_reducible refine gate_callee (f:=52) rfl ?_);refine goesL_ (some 8) rfl rfl Tryz.func52 (by kernel_rfl) rfl #[.int .i64 (l0_0.length:Int),.int .i64 1,.int .i64 481] rfl (by (try simp only [List.map_toArray,List.map_cons,List.map_nil]);first|done|rfl|(simp only [List.length_drop,List.length_take];rfl)) ?_;(with_reducible refine (spec_l1In.calls (l0_0.length:Int) 1 481 true _ A2.out).mono ?_);rintro e w' ⟨rfl,⟨nd,rfl⟩⟩;refine ⟨_,rfl,?_⟩)|((with_reducible refine gate_callee (f:=27) rfl ?_);refine goesL_ (some 12) rfl rfl Tryz.func27 (by kernel_rfl) rfl #[.agg #[.slice A0_0 l0_0.length c0_0]] rfl (by (try simp only [List.map_toArray,List.map_cons,List.map_nil]);first|done|rfl|(simp only [List.length_drop,List.length_take];rfl)) ?_;(with_reducible refine (spec_l2Words.calls k _ _ l0_0 t289 _ ?side1 ?side2 A4.out).mono ?_);(case side1=>repeat (first|exact (Kd.C_below HR0_0.out (by repeat (first|(with_reducible first|exact HB.out|apply qA|apply qN|apply q1_|refine qS ?_ GE287.out)|exact HB.out)))|(with_reducible refine Kd.C_alloc ?_ _)|(with_reducible refine Kd.C_drewN ?_ _)|(with_reducible refine Kd.C_drew ?_)));(case side2=>exact HC0_0.out);rintro e w21 ⟨v290,rfl,ho0,hb⟩;refine ⟨_,rfl,?_⟩;have n0_:=Zz.mk (Kd.R_lower ho0 (qZ (by repeat (first|(with_reducible first|exact HB.out|apply qA|apply qN|apply q1_|refine qS ?_ GE287.out)|exact HB.out))));have n1_:=Zz.mk (bB (g:=gb287) (o:=.cells #[.slice A0_0 l0_0.length c0_0] 31 (0,0)) (by (with_reducible repeat first|apply bN|apply bD|apply bA);exact BK287.out) hb);have n2_:=Zz.mk (qP (by repeat (first|(with_reducible first|exact HB.out|apply qA|apply qN|apply q1_|refine qS ?_ GE287.out)|exact HB.out)) hb);clear BK287;clear HB;have HO291:=n0_;have BK287:=n1_;have HB:=n2_;clear n0_ n1_ n2_;(try clear hb);(try clear hb2);(try clear hk);(try clear hi);(try clear ho0);obtain ⟨Ao22,co22,eo22⟩:=Kd.R_slice HO291.out;subst eo22)|((with_reducible refine gate_callee (f:=53) rfl ?_);refine goesL_ (some 13) rfl rfl Tryz.func53 (by kernel_rfl) rfl #[.slice Ao22 t289.length co22] rfl (by (try simp only [List.map_toArray,List.map_cons,List.map_nil]);first|done|rfl|(simp only [List.length_drop,List.length_take];rfl)) ?_;(with_reducible refine (spec_l2Set.calls k _ _ t289 t292 false _ ?side1 ?side2 A5.out).mono ?_);(case side1=>repeat (first|exact (Kd.R_reads' HO291.out).2.2|(with_reducible refine Kd.C_alloc ?_ _)|(with_reducible refine Kd.C_drewN ?_ _)|(with_reducible refine Kd.C_drew ?_)));(case side2=>exact (Kd.R_reads' HO291.out).2.1);rintro e w23 ⟨v293,rfl,ho0,hb⟩;refine ⟨_,rfl,?_⟩;have n0_:=Zz.mk (Kd.R_below (by (with_reducible repeat first|apply Kd.R_alloc|apply Kd.R_drewN|apply Kd.R_drew);exact HO291.out) hb);have n1_:=Zz.mk (Kd.V_lower (Kd.V_mono (ok':=fun k_=>some k_ ≠ (.slice Ao22 t289.length co22:Value).ownBlock∧k_ ≠ gb287) ho0 (fun k_ hk_=>⟨(Kd.fresh' (Kd.R_lt (by (with_reducible repeat first|apply Kd.R_alloc|apply Kd.R_drewN|apply Kd.R_drew);exact HO291.out)) k_ hk_),(Kd.freshB (g:=gb287) (o:=.cells #[.slice A0_0 l0_0.length c0_0] 31 (0,0)) (by (with_reducible repeat first|apply bN|apply bD|apply bA);exact BK287.out) k_ hk_)⟩)) (qZ (by repeat (first|(with_reducible first|exact HB.out|apply qA|apply qN|apply q1_|refine qS ?_ GE287.out)|exact HB.out))));have n2_:=Zz.mk (bB (g:=gb287) (o:=.cells #[.slice A0_0 l0_0.length c0_0] 31 (0,0)) (by (with_reducible repeat first|apply bN|apply bD|apply bA);exact BK287.out) hb);have n3_:=Zz.mk (qP (by repeat (first|(with_reducible first|exact HB.out|apply qA|apply qN|apply q1_|refine qS ?_ GE287.out)|exact HB.out)) hb);clear HO291;clear BK287;clear HB;have HO291:=n0_;have HO294:=n1_;have BK287:=n2_;have HB:=n3_;clear n0_ n1_ n2_ n3_;(try clear hb);(try clear hb2);(try clear hk);(try clear hi);(try clear ho0)))
   have n0_:=Zz.mk (Kd.R_drew HO291.out)
   have n1_:=Zz.mk (Kd.V_drew HO294.out)
   have n2_:=Zz.mk (bD BK287.out)
   have n3_:=Zz.mk (q1_ HB.out)
   revert n0_ n1_ n2_ n3_
   clear HO291 HO294 BK287 HB
   intro HO291 HO294 BK287 HB
   refine start_ (n:=8) (S:=fun w'=>True) (ds:=[]) #[false,false,false,false,false,false,false,false] (by kernel_rfl) rfl rfl trivial (fun hHeld=>?_);refine with_tabW spec_l2Trie.tab4 spec_l2Trie.bits4 (fun HT_ HW_=>?_)
   generalize w23.drew=w24 at HO291 HO294 BK287 HB hHeld ⊢
   refine pure_ (i:=0) (N:=some 16) (v:=?_) (a':=?_) #[true,false,false,false,false,false,false,false] rfl rfl (any_of HT_.out (by kernel_rfl)) (fun _ _ _ h=>h) (Or.inl ⟨by rfl,?_⟩) ?_ ?_
   rotate_left
   ·intro w'
    go_simp
    with_reducible rfl
   rotate_left
   ·simp only [Act.put,List.setIfInBounds_toArray,List.set_cons_zero,List.set_cons_succ,i64_w,i32_w]
    rfl
   refine pure_ (i:=1) (N:=some 17) (v:=?_) (a':=?_) #[true,true,false,false,false,false,false,false] rfl rfl (any_of HT_.out (by kernel_rfl)) (fun _ _ _ h=>h) (Or.inl ⟨by rfl,?_⟩) ?_ ?_
   rotate_left
   ·intro w'
    go_simp
    with_reducible rfl
   rotate_left
   ·simp only [Act.put,List.setIfInBounds_toArray,List.set_cons_zero,List.set_cons_succ,i64_w,i32_w]
    rfl
   refine pure_ (i:=2) (N:=some 18) (v:=undef) (a':=?_) #[true,true,true,false,false,false,false,false] rfl rfl (any_of HT_.out (by kernel_rfl)) (fun _ _ _ h=>h) (Or.inr ⟨by rfl,rfl⟩) ?_ ?_
   rotate_left
   ·simp only [Act.put,List.setIfInBounds_toArray,List.set_cons_zero,List.set_cons_succ,i64_w,i32_w]
    rfl
   refine pure_ (i:=3) (N:=some 19) (v:=undef) (a':=?_) #[true,true,true,true,false,false,false,false] rfl rfl (any_of HT_.out (by kernel_rfl)) (fun _ _ _ h=>h) (Or.inr ⟨by rfl,rfl⟩) ?_ ?_
   rotate_left
   ·simp only [Act.put,List.setIfInBounds_toArray,List.set_cons_zero,List.set_cons_succ,i64_w,i32_w]
    rfl
   refine pure_ (i:=4) (N:=some 20) (v:=undef) (a':=?_) #[true,true,true,true,true,false,false,false] rfl rfl (any_of HT_.out (by kernel_rfl)) (fun _ _ _ h=>h) (Or.inr ⟨by rfl,rfl⟩) ?_ ?_
   rotate_left
   ·simp only [Act.put,List.setIfInBounds_toArray,List.set_cons_zero,List.set_cons_succ,i64_w,i32_w]
    rfl
   refine pure_ (i:=5) (N:=some 21) (v:=undef) (a':=?_) #[true,true,true,true,true,true,false,false] rfl rfl (any_of HT_.out (by kernel_rfl)) (fun _ _ _ h=>h) (Or.inr ⟨by rfl,rfl⟩) ?_ ?_
   rotate_left
   ·simp only [Act.put,List.setIfInBounds_toArray,List.set_cons_zero,List.set_cons_succ,i64_w,i32_w]
    rfl
   refine pure_ (i:=6) (N:=some 22) (v:=?_) (a':=?_) #[true,true,true,true,true,true,true,false] rfl rfl (any_of HT_.out (by kernel_rfl)) (fun _ _ _ h=>h) (Or.inl ⟨by rfl,?_⟩) ?_ ?_
   rotate_left
   ·intro w'
    go_simp
    with_reducible rfl
   rotate_left
   ·simp only [Act.put,List.setIfInBounds_toArray,List.set_cons_zero,List.set_cons_succ,i64_w,i32_w]
    rfl
   refine pure_ (i:=7) (N:=some 2) (v:=?_) (a':=?_) #[true,true,true,true,true,true,true,true] rfl rfl (any_of HT_.out (by kernel_rfl)) (fun _ _ _ h=>h) (Or.inl ⟨by rfl,?_⟩) ?_ ?_
   rotate_left
   ·intro w'
    go_simp
    with_reducible rfl
   rotate_left
   ·simp only [Act.put,List.setIfInBounds_toArray,List.set_cons_zero,List.set_cons_succ,i64_w,i32_w]
    rfl
   refine done_ (done_of HT_.out (by kernel_rfl)) ?_
   try go_wp2
   go_ret
   exact ⟨by first|rfl|(simp [errW_none,errW_some] <;> rfl)|(simp [*,errW_none,errW_some] <;> rfl),by repeat (first|(with_reducible first|exact HB.out|apply qA|apply qN|apply q1_|refine qS ?_ GE287.out)|exact HB.out)⟩
 ·replace c3:=Bool.eq_false_iff.mpr c3
  subst c3
  have H1:(some false)=some r:=by rw [if_neg (show ¬ (false=true) by decide)] at H;exact H
  clear H
  have H:=H1
  clear H1
  obtain rfl:=Option.some.inj H
  go_enter Tryz.func39,Tryz.ntmps39
  go_wp2_with (first|((with_reducible refine gate_dst (N:=1) rfl ?_);refine box_event ?hg (N:=1) ?hd (cs:=#[.slice A0_0 l0_0.length c0_0]) (t:=31) ?hr ?_;(case hd=>rfl);(case hg=>rfl);(case hr=>first|(go_simp;done)|(go_simp;rfl));intro gb287 hg w25 hbox hb;have n0_:=Zz.mk (qP (by repeat (first|(with_reducible first|exact HB.out|apply qA|apply qN|apply q1_)|exact HB.out)) hb);have n1_:=Zz.mk (hbox);have n2_:=Zz.mk ((by rw [hg];exact (qZ (by repeat (first|(with_reducible first|exact HB.out|apply qA|apply qN|apply q1_)|exact HB.out))):w.heap.size≤gb287));have n3_:=Zz.mk ((by rw [hg];exact (qZ (by repeat (first|(with_reducible first|exact HB.out|apply qA|apply qN|apply q1_)|exact HB.out))):w.heap.size≤gb287));clear HB;have HB:=n0_;have BK287:=n1_;have GW287:=n2_;have GE287:=n3_;clear n0_ n1_ n2_ n3_;clear hb hbox hg;have hcz26_0:w25.cell? ⟨gb287,0,none⟩=some (.slice A0_0 l0_0.length c0_0):=(bC BK287.out 0).trans rfl;have hfz26_0:=bF BK287.out 0)|((with_reducible refine gate_callee (f:=52) rfl ?_);refine goesL_ (some 8) rfl rfl Tryz.func52 (by kernel_rfl) rfl #[.int .i64 (l0_0.length:Int),.int .i64 1,.int .i64 481] rfl (by (try simp only [List.map_toArray,List.map_cons,List.map_nil]);first|done|rfl|(simp only [List.length_drop,List.length_take];rfl)) ?_;(with_reducible refine (spec_l1In.calls (l0_0.length:Int) 1 481 false _ A2.out).mono ?_);rintro e w' ⟨rfl,⟨nd,rfl⟩⟩;refine ⟨_,rfl,?_⟩))
  go_ret
  exact ⟨by first|rfl|(simp [errW_none,errW_some] <;> rfl)|(simp [*,errW_none,errW_some] <;> rfl),by repeat (first|(with_reducible first|exact HB.out|apply qA|apply qN|apply q1_|refine qS ?_ GE287.out)|exact HB.out)⟩
mutual
def spec_l3Text.l0:Nat→ByteArray→Int→Option (Bool)
 | 0,_,_=>none
 | k+1,x0,x3=>if x3<(x0.size:Int) then (spec_l3Text.j1 k x0 x3 (decide (x3≤60))) else (spec_l3Text.j1 k x0 x3 false)
def spec_l3Text.j1:Nat→ByteArray→Int→Bool→Option (Bool)
 | 0,_,_,_=>none
 | k+1,x0,x3,x11=>if x11=true then (if 0≤x3 then (if x3<(x0.size:Int) then (if (bt x0 x3)<97 then (some false) else (if (bt x0 x3) > 122 then (some false) else (spec_l3Text.l0 k x0 (wrap64 (x3+1))))) else (none)) else (none)) else (some (decide ((x0.size:Int)≤60)))
end
def spec_l3Text.f (k:Nat) (a0:ByteArray):Option (Bool):=spec_l3Text.l0 k a0 0
set_option maxHeartbeats 8000000 in
set_option maxRecDepth 100000 in
theorem spec_l3Text.calls (k:Nat) (a0:ByteArray) (r:Bool) (w:World) (h:spec_l3Text.f k a0=some r) :
  Calls Tryz.prog 40 #[.string a0] w fun e w'=>e=.returned (.bool r)∧Drawn0 w w':=by
 have H:(spec_l3Text.l0 k a0 0)=some r:=h
 clear h
 have H':=Zz.mk H
 clear H
 go_enter Tryz.func40,Tryz.ntmps40
 go_wp2
 go_loopg [3] k (fun kq v3 w'=>∃ (x3_1:Int),v3=.int .i64 x3_1∧Zz (spec_l3Text.l0 kq a0 x3_1=some r)∧Zz (kq≤k)∧Drawn0 w w')
 case atStart=>exact ⟨(0),(by first|rfl|(simp;done)|(simp [*];done)),H',⟨Nat.le_refl _⟩,by repeat (first|exact Drawn0.refl _|apply Drawn0.step)⟩
 case round =>
  clear H'
  obtain ⟨x3_1,rfl,HA,HK1,⟨m1,rfl⟩⟩:=hrel
  cases gk with
  | zero=>exact absurd HA.out (by simp [spec_l3Text.l0])
  | succ k1 =>
   have H:=HA.out
   clear HA
   simp only [spec_l3Text.l0] at H
   have HC2:=Zz.mk H
   clear H
   go_upto_region 2 with (fail)
   go_cut [11] (fun v11 wc=>∃ (kq:Nat) (x11_1:Bool),v11=.bool x11_1∧Zz (spec_l3Text.j1 kq a0 x3_1 x11_1=some r)∧Zz (kq≤k1)∧Drawn0 w wc)
   case first =>
    have H:=HC2.out
    clear HC2
    by_cases c3:x3_1<(a0.size:Int)
    ·rw [if_pos c3] at H
     have c3b0:decide (x3_1<(a0.size:Int))=true:=decide_eq_true c3
     clear c3
     (first|rw [c3b0]|(simp only [i64_w,i32_w];rw [c3b0])|skip)
     have H':=Zz.mk H
     clear H
     go_wp2
     go_meet
     case rel=>exact ⟨_,(decide (x3_1≤60)),(by first|rfl|(simp;done)|(simp [*];done)),H',⟨by have:=HK1.out;first|omega|exact Nat.le_refl _⟩,by repeat (first|exact Drawn0.refl _|apply Drawn0.step)⟩
    ·rw [if_neg c3] at H
     have c3b0:decide (x3_1<(a0.size:Int))=false:=decide_eq_false c3
     clear c3
     (first|rw [c3b0]|(simp only [i64_w,i32_w];rw [c3b0])|skip)
     have H':=Zz.mk H
     clear H
     go_wp2
     go_meet
     case rel=>exact ⟨_,(false),(by first|rfl|(simp;done)|(simp [*];done)),H',⟨by have:=HK1.out;first|omega|exact Nat.le_refl _⟩,by repeat (first|exact Drawn0.refl _|apply Drawn0.step)⟩
   case rest =>
    clear HC2
    try clear p2
    try clear c3
    try clear c3b0
    obtain ⟨kq,x11_1,rfl,HA,HJ1,⟨mc1,rfl⟩⟩:=hcut
    cases kq with
    | zero=>exact absurd HA.out (by simp [spec_l3Text.j1])
    | succ kj1 =>
     have H:=HA.out
     clear HA
     simp only [spec_l3Text.j1] at H
     by_cases c4:x11_1=true
     ·subst c4
      have H1:(if 0≤x3_1 then (if x3_1<(a0.size:Int) then (if (bt a0 x3_1)<97 then (some false) else (if (bt a0 x3_1) > 122 then (some false) else (spec_l3Text.l0 kj1 a0 (wrap64 (x3_1+1))))) else (none)) else (none))=some r:=by rw [if_pos rfl] at H;exact H
      clear H
      have H:=H1
      clear H1
      by_cases c5:0≤x3_1
      ·rw [if_pos c5] at H
       have c5b0:decide (0≤x3_1)=true:=decide_eq_true c5
       clear c5
       by_cases c6:x3_1<(a0.size:Int)
       ·rw [if_pos c6] at H
        have c6b0:decide (x3_1<(a0.size:Int))=true:=decide_eq_true c6
        clear c6
        by_cases c8:(bt a0 x3_1)<97
        ·rw [if_pos c8] at H
         have c8b0:decide ((bt a0 x3_1)<97)=true:=decide_eq_true c8
         clear c8
         obtain rfl:=Option.some.inj H
         have p7:0≤(x3_1:Int):=of_decide_eq_true (by first|(with_reducible assumption)|assumption)
         have q7:x3_1<(a0.size:Int):=of_decide_eq_true (by first|(with_reducible assumption)|assumption)
         have hx7:=bt_at a0 x3_1
         replace p7:=eq_true p7
         replace q7:=eq_true q7
         go_wp2
         go_ret
         exact ⟨by first|rfl|(simp;done)|(simp [*];done),by repeat (first|exact Drawn0.refl _|apply Drawn0.step)⟩
        ·rw [if_neg c8] at H
         have c8b0:decide ((bt a0 x3_1)<97)=false:=decide_eq_false c8
         clear c8
         by_cases c10:(bt a0 x3_1) > 122
         ·rw [if_pos c10] at H
          have c10b0:decide (122<(bt a0 x3_1))=true:=decide_eq_true c10
          clear c10
          obtain rfl:=Option.some.inj H
          have p7:0≤(x3_1:Int):=of_decide_eq_true (by first|(with_reducible assumption)|assumption)
          have q7:x3_1<(a0.size:Int):=of_decide_eq_true (by first|(with_reducible assumption)|assumption)
          have hx7:=bt_at a0 x3_1
          replace p7:=eq_true p7
          replace q7:=eq_true q7
          have p9:0≤(x3_1:Int):=of_decide_eq_true (by first|(with_reducible assumption)|assumption)
          have q9:x3_1<(a0.size:Int):=of_decide_eq_true (by first|(with_reducible assumption)|assumption)
          have hx9:=bt_at a0 x3_1
          replace p9:=eq_true p9
          replace q9:=eq_true q9
          go_wp2
          go_ret
          exact ⟨by first|rfl|(simp;done)|(simp [*];done),by repeat (first|exact Drawn0.refl _|apply Drawn0.step)⟩
         ·rw [if_neg c10] at H
          have c10b0:decide (122<(bt a0 x3_1))=false:=decide_eq_false c10
          clear c10
          have H':=Zz.mk H
          clear H
          have p7:0≤(x3_1:Int):=of_decide_eq_true (by first|(with_reducible assumption)|assumption)
          have q7:x3_1<(a0.size:Int):=of_decide_eq_true (by first|(with_reducible assumption)|assumption)
          have hx7:=bt_at a0 x3_1
          replace p7:=eq_true p7
          replace q7:=eq_true q7
          have p9:0≤(x3_1:Int):=of_decide_eq_true (by first|(with_reducible assumption)|assumption)
          have q9:x3_1<(a0.size:Int):=of_decide_eq_true (by first|(with_reducible assumption)|assumption)
          have hx9:=bt_at a0 x3_1
          replace p9:=eq_true p9
          replace q9:=eq_true q9
          go_wp2
          go_roundg kj1
          case measure=>have:=HK1.out;have:=HJ1.out;omega
          case rel=>exact ⟨(wrap64 (x3_1+1)),(by first|rfl|(simp;done)|(simp [*];done)),H',⟨by have:=HK1.out;have:=HJ1.out;omega⟩,by repeat (first|exact Drawn0.refl _|apply Drawn0.step)⟩
       ·rw [if_neg c6] at H
        exact absurd H (by simp)
      ·rw [if_neg c5] at H
       exact absurd H (by simp)
     ·replace c4:=Bool.eq_false_iff.mpr c4
      subst c4
      have H1:(some (decide ((a0.size:Int)≤60)))=some r:=by rw [if_neg (show ¬ (false=true) by decide)] at H;exact H
      clear H
      have H:=H1
      clear H1
      obtain rfl:=Option.some.inj H
      go_wp2
      go_ret
      exact ⟨by first|rfl|(simp;done)|(simp [*];done),by repeat (first|exact Drawn0.refl _|apply Drawn0.step)⟩
end Go.Proofs.YtadpmgdmiaoniaaGreatDoor.Q
namespace Go.Proofs.YtadpmgdmiaoniaaGreatDoor.Q
open Go.RowKit Go.Proofs.YtadpmgdmiaoniaaGreatDoorW.PrintWords Go.Proofs.YtadpmgdmiaoniaaGreatDoorW.PrintLast Go.Proofs.YtadpmgdmiaoniaaGreatDoorW.PrintMore
attribute [local go_sem] run_field_23 run_field_24 run_field_30 run_field_31 isSome_setCell max2_int min2_int max_two min_two max_three min_three max_four min_four   -- for this text's walks alone
set_option linter.unusedVariables false
set_option linter.unusedSimpArgs false
def spec_l3Good.f (k:Nat) (l0_0:List (S70)) (a1:ByteArray):Option (Bool):=(spec_l2Trie.f k l0_0).bind fun t301=>(if t301=true then ((spec_l3Text.f k a1).bind fun t302=>(some t302)) else (some false))
set_option maxHeartbeats 8000000 in
set_option maxRecDepth 100000 in
theorem spec_l3Good.calls (k:Nat) (A0_0:Option Addr) (c0_0:Nat) (l0_0:List (S70)) (a1:ByteArray) (r:Bool) (w:World) (hr0_0:Kd.C k70 w A0_0 l0_0.length l0_0) (hc0_0:l0_0.length≤c0_0) (h:spec_l3Good.f k l0_0 a1=some r) :
  Calls Tryz.prog 26 #[.agg #[.slice A0_0 l0_0.length c0_0],.string a1] w fun e w'=>e=.returned (.bool r)∧Below w.heap.size w w':=by
 have hu31:=Tryz.underlying31
 have HR0_0:=Zz.mk hr0_0
 have HC0_0:=Zz.mk hc0_0
 clear hr0_0 hc0_0
 have HB:=Zz.mk (Below.refl w.heap.size w)
 have H:((spec_l2Trie.f k l0_0).bind fun t301=>(if t301=true then ((spec_l3Text.f k a1).bind fun t302=>(some t302)) else (some false)))=some r:=h
 clear h
 replace H:=Option.bind_eq_some_iff.mp H
 obtain ⟨t301,A30,H⟩:=H
 replace H:(if t301=true then ((spec_l3Text.f k a1).bind fun t302=>(some t302)) else (some false))=some r:=H
 have A3:=Zz.mk A30
 clear A30
 by_cases c4:t301=true
 ·subst c4
  have H1:((spec_l3Text.f k a1).bind fun t302=>(some t302))=some r:=by rw [if_pos rfl] at H;exact H
  clear H
  have H:=H1
  clear H1
  replace H:=Option.bind_eq_some_iff.mp H
  obtain ⟨t302,A50,H⟩:=H
  replace H:(some t302)=some r:=H
  have A5:=Zz.mk A50
  clear A50
  obtain rfl:=Option.some.inj H
  go_enter Tryz.func26,Tryz.ntmps26
  go_wp2_with (first|((with_reducible refine gate_dst (N:=2) rfl ?_);refine box_event ?hg (N:=2) ?hd (cs:=#[.slice A0_0 l0_0.length c0_0]) (t:=31) ?hr ?_;(case hd=>rfl);(case hg=>rfl);(case hr=>first|(go_simp;done)|(go_simp;rfl));intro gb300 hg w6 hbox hb;have n0_:=Zz.mk (qP (by repeat (first|(with_reducible first|exact HB.out|apply qA|apply qN|apply q1_)|exact HB.out)) hb);have n1_:=Zz.mk (hbox);have n2_:=Zz.mk ((by rw [hg];exact (qZ (by repeat (first|(with_reducible first|exact HB.out|apply qA|apply qN|apply q1_)|exact HB.out))):w.heap.size≤gb300));have n3_:=Zz.mk ((by rw [hg];exact (qZ (by repeat (first|(with_reducible first|exact HB.out|apply qA|apply qN|apply q1_)|exact HB.out))):w.heap.size≤gb300));clear HB;have HB:=n0_;have BK300:=n1_;have GW300:=n2_;have GE300:=n3_;clear n0_ n1_ n2_ n3_;clear hb hbox hg;have hcz7_0:w6.cell? ⟨gb300,0,none⟩=some (.slice A0_0 l0_0.length c0_0):=(bC BK300.out 0).trans rfl;have hfz7_0:=bF BK300.out 0)|((with_reducible refine gate_callee (f:=39) rfl ?_);refine goesL_ (some 6) rfl rfl Tryz.func39 (by kernel_rfl) rfl #[.agg #[.slice A0_0 l0_0.length c0_0]] rfl (by (try simp only [List.map_toArray,List.map_cons,List.map_nil]);first|done|rfl|(simp only [List.length_drop,List.length_take];rfl)) ?_;(with_reducible refine (spec_l2Trie.calls k _ _ l0_0 true _ ?side1 ?side2 A3.out).mono ?_);(case side1=>repeat (first|exact (Kd.C_below HR0_0.out HB.out)|(with_reducible refine Kd.C_alloc ?_ _)|(with_reducible refine Kd.C_drewN ?_ _)|(with_reducible refine Kd.C_drew ?_)));(case side2=>exact HC0_0.out);rintro e w8 ⟨rfl,hb⟩;refine ⟨_,rfl,?_⟩;have n0_:=Zz.mk (bB (g:=gb300) (o:=.cells #[.slice A0_0 l0_0.length c0_0] 31 (0,0)) (by (with_reducible repeat first|apply bN|apply bD|apply bA);exact BK300.out) hb);have n1_:=Zz.mk (qP (by repeat (first|(with_reducible first|exact HB.out|apply qA|apply qN|apply q1_|refine qS ?_ GE300.out)|exact HB.out)) hb);clear BK300;clear HB;have BK300:=n0_;have HB:=n1_;clear n0_ n1_;(try clear hb);(try clear hb2);(try clear hk);(try clear hi))|(go_at_call 40;(with_reducible refine (spec_l3Text.calls k a1 t302 _ A5.out).mono ?_);rintro e w' ⟨rfl,⟨nd,rfl⟩⟩))
  go_ret
  exact ⟨by first|rfl|(simp [errW_none,errW_some] <;> rfl)|(simp [*,errW_none,errW_some] <;> rfl),by repeat (first|(with_reducible first|exact HB.out|apply qA|apply qN|apply q1_|refine qS ?_ GE300.out)|exact HB.out)⟩
 ·replace c4:=Bool.eq_false_iff.mpr c4
  subst c4
  have H1:(some false)=some r:=by rw [if_neg (show ¬ (false=true) by decide)] at H;exact H
  clear H
  have H:=H1
  clear H1
  obtain rfl:=Option.some.inj H
  go_enter Tryz.func26,Tryz.ntmps26
  go_wp2_with (first|((with_reducible refine gate_dst (N:=2) rfl ?_);refine box_event ?hg (N:=2) ?hd (cs:=#[.slice A0_0 l0_0.length c0_0]) (t:=31) ?hr ?_;(case hd=>rfl);(case hg=>rfl);(case hr=>first|(go_simp;done)|(go_simp;rfl));intro gb300 hg w9 hbox hb;have n0_:=Zz.mk (qP (by repeat (first|(with_reducible first|exact HB.out|apply qA|apply qN|apply q1_)|exact HB.out)) hb);have n1_:=Zz.mk (hbox);have n2_:=Zz.mk ((by rw [hg];exact (qZ (by repeat (first|(with_reducible first|exact HB.out|apply qA|apply qN|apply q1_)|exact HB.out))):w.heap.size≤gb300));have n3_:=Zz.mk ((by rw [hg];exact (qZ (by repeat (first|(with_reducible first|exact HB.out|apply qA|apply qN|apply q1_)|exact HB.out))):w.heap.size≤gb300));clear HB;have HB:=n0_;have BK300:=n1_;have GW300:=n2_;have GE300:=n3_;clear n0_ n1_ n2_ n3_;clear hb hbox hg;have hcz10_0:w9.cell? ⟨gb300,0,none⟩=some (.slice A0_0 l0_0.length c0_0):=(bC BK300.out 0).trans rfl;have hfz10_0:=bF BK300.out 0)|((with_reducible refine gate_callee (f:=39) rfl ?_);refine goesL_ (some 6) rfl rfl Tryz.func39 (by kernel_rfl) rfl #[.agg #[.slice A0_0 l0_0.length c0_0]] rfl (by (try simp only [List.map_toArray,List.map_cons,List.map_nil]);first|done|rfl|(simp only [List.length_drop,List.length_take];rfl)) ?_;(with_reducible refine (spec_l2Trie.calls k _ _ l0_0 false _ ?side1 ?side2 A3.out).mono ?_);(case side1=>repeat (first|exact (Kd.C_below HR0_0.out HB.out)|(with_reducible refine Kd.C_alloc ?_ _)|(with_reducible refine Kd.C_drewN ?_ _)|(with_reducible refine Kd.C_drew ?_)));(case side2=>exact HC0_0.out);rintro e w11 ⟨rfl,hb⟩;refine ⟨_,rfl,?_⟩;have n0_:=Zz.mk (bB (g:=gb300) (o:=.cells #[.slice A0_0 l0_0.length c0_0] 31 (0,0)) (by (with_reducible repeat first|apply bN|apply bD|apply bA);exact BK300.out) hb);have n1_:=Zz.mk (qP (by repeat (first|(with_reducible first|exact HB.out|apply qA|apply qN|apply q1_|refine qS ?_ GE300.out)|exact HB.out)) hb);clear BK300;clear HB;have BK300:=n0_;have HB:=n1_;clear n0_ n1_;(try clear hb);(try clear hb2);(try clear hk);(try clear hi)))
  go_ret
  exact ⟨by first|rfl|(simp [errW_none,errW_some] <;> rfl)|(simp [*,errW_none,errW_some] <;> rfl),by repeat (first|(with_reducible first|exact HB.out|apply qA|apply qN|apply q1_|refine qS ?_ GE300.out)|exact HB.out)⟩
def spec_l3Stands.f (a0:ByteArray) (a1:ByteArray) (a2:Int):Option (Bool):=if (wrap64 (a2+(a1.size:Int)))≤(a0.size:Int) then (if 0≤a2 then (if a2≤(wrap64 (a2+(a1.size:Int))) then (some ((a0.extract (a2:Int).toNat ((wrap64 (a2+(a1.size:Int))):Int).toNat).toList == a1.toList)) else (none)) else (none)) else (some false)
set_option maxHeartbeats 8000000 in
set_option maxRecDepth 100000 in
theorem spec_l3Stands.calls (a0:ByteArray) (a1:ByteArray) (a2:Int) (r:Bool) (w:World) (h:spec_l3Stands.f a0 a1 a2=some r) :
  Calls Tryz.prog 42 #[.string a0,.string a1,.int .i64 a2] w fun e w'=>e=.returned (.bool r)∧Drawn0 w w':=by
 have H:(if (wrap64 (a2+(a1.size:Int)))≤(a0.size:Int) then (if 0≤a2 then (if a2≤(wrap64 (a2+(a1.size:Int))) then (some ((a0.extract (a2:Int).toNat ((wrap64 (a2+(a1.size:Int))):Int).toNat).toList == a1.toList)) else (none)) else (none)) else (some false))=some r:=h
 clear h
 by_cases c4:(wrap64 (a2+(a1.size:Int)))≤(a0.size:Int)
 ·rw [if_pos c4] at H
  have c4b0:decide ((wrap64 (a2+(a1.size:Int)))≤(a0.size:Int))=true:=decide_eq_true c4
  clear c4
  by_cases c5:0≤a2
  ·rw [if_pos c5] at H
   have c5b0:=eq_true c5
   have c5b1:decide (0≤a2)=true:=decide_eq_true c5
   clear c5
   by_cases c6:a2≤(wrap64 (a2+(a1.size:Int)))
   ·rw [if_pos c6] at H
    have c6b0:=eq_true c6
    have c6b1:decide (a2≤(wrap64 (a2+(a1.size:Int))))=true:=decide_eq_true c6
    have c7b0:=eq_true (of_decide_eq_true (by first|(with_reducible assumption)|assumption):(wrap64 (a2+(a1.size:Int)))≤(a0.size:Int))
    obtain rfl:=Option.some.inj H
    go_enter Tryz.func42,Tryz.ntmps42
    go_wp2
    go_ret
    exact ⟨by first|rfl|(simp;done)|(simp [*];done),by repeat (first|exact Drawn0.refl _|apply Drawn0.step)⟩
   ·rw [if_neg c6] at H
    exact absurd H (by simp)
  ·rw [if_neg c5] at H
   exact absurd H (by simp)
 ·rw [if_neg c4] at H
  have c4b0:decide ((wrap64 (a2+(a1.size:Int)))≤(a0.size:Int))=false:=decide_eq_false c4
  clear c4
  obtain rfl:=Option.some.inj H
  go_enter Tryz.func42,Tryz.ntmps42
  go_wp2
  go_ret
  exact ⟨by first|rfl|(simp;done)|(simp [*];done),by repeat (first|exact Drawn0.refl _|apply Drawn0.step)⟩
end Go.Proofs.YtadpmgdmiaoniaaGreatDoor.Q
namespace Go.Proofs.YtadpmgdmiaoniaaGreatDoor.Q
open Go.RowKit Go.Proofs.YtadpmgdmiaoniaaGreatDoorW.PrintWords Go.Proofs.YtadpmgdmiaoniaaGreatDoorW.PrintLast Go.Proofs.YtadpmgdmiaoniaaGreatDoorW.PrintMore
attribute [local go_sem] run_field_23 run_field_24 run_field_30 run_field_31 isSome_setCell max2_int min2_int max_two min_two max_three min_three max_four min_four   -- for this text's walks alone
set_option linter.unusedVariables false
set_option linter.unusedSimpArgs false
def spec_l1Put.l0:Nat→List Int→Int→Int→Option (List Int)
  | 0,_,_,_=>none
  | k+1,x0,x1,x5=>if x5<(x0.length:Int) then (if 0≤x5 then (if (rd x0 x5)<x1 then (spec_l1Put.l0 k x0 x1 (wrap64 (x5+1))) else (if (rd x0 x5)=x1 then (some x0) else ((some (([]:List Int):List Int)).bind fun y305=>(if x5≤(x0.length:Int) then ((some (x0.take (x5:Int).toNat:List Int)).bind fun y308=>(if y305.length+y308.length<17592186044416 then ((some (y305 ++ y308:List Int)).bind fun y313=>((some (([x1]:List Int):List Int)).bind fun y316=>(if y313.length+y316.length<17592186044416 then ((some (y313 ++ y316:List Int)).bind fun y319=>((some (x0.drop (x5:Int).toNat:List Int)).bind fun y322=>(if y319.length+y322.length<17592186044416 then (some (y319 ++ y322)) else (none)))) else (none)))) else (none))) else (none))))) else (none)) else ((some (([]:List Int):List Int)).bind fun y330=>(if 0≤x5 then (if x5≤(x0.length:Int) then ((some (x0.take (x5:Int).toNat:List Int)).bind fun y333=>(if y330.length+y333.length<17592186044416 then ((some (y330 ++ y333:List Int)).bind fun y338=>((some (([x1]:List Int):List Int)).bind fun y341=>(if y338.length+y341.length<17592186044416 then ((some (y338 ++ y341:List Int)).bind fun y344=>((some (x0.drop (x5:Int).toNat:List Int)).bind fun y347=>(if y344.length+y347.length<17592186044416 then (some (y344 ++ y347)) else (none)))) else (none)))) else (none))) else (none)) else (none)))
def spec_l1Put.f (k:Nat) (l0:List Int) (a1:Int):Option (List Int):=spec_l1Put.l0 k l0 a1 0
def spec_l1Put.T6:Bool × List (List Nat × List Nat):=(true,[([],[]),([],[]),([],[]),([1,2],[1,2]),([0,3],[0,3]),([],[]),([5],[5]),([4,6,4],[4,6]),([],[]),([],[]),([8,9],[8,9]),([7,10,7],[7,10]),([11,11,0,1,2,3,4,5,6,7,8,9,10,11],[11])])
def spec_l1Put.B6:List Nat:=[0,0,0,6,15,0,32,127,0,0,768,2047,4095]
theorem spec_l1Put.tab6:rtab .any (opsOf Tryz.f43 6)=spec_l1Put.T6:=by kernel_rfl
theorem spec_l1Put.bits6:waitsOk spec_l1Put.T6.2 spec_l1Put.B6=true:=by kernel_rfl
set_option maxHeartbeats 8000000 in
set_option maxRecDepth 100000 in
theorem spec_l1Put.calls (k:Nat) (P0_:Nat→Prop) (A0:Option Addr) (c0:Nat) (l0:List Int) (a1:Int) (r:List Int) (w:World) (hs0:Kd.V (Kd.int .i64) 3 w w.heap.size (fun k_=>P0_ k_) (.slice A0 l0.length c0) l0) (h:spec_l1Put.f k l0 a1=some r) :
  Calls Tryz.prog 43 #[.slice A0 l0.length c0,.int .i64 a1] w fun e w'=>∃ v0_:Value,e=.returned (v0_)∧Kd.V (Kd.int .i64) 3 w' w.heap.size (fun k_=>(P0_ k_∨w.heap.size≤k_)) v0_ r∧Below w.heap.size w w':=by
 have HO0:=Zz.mk (show Kd.V (Kd.int .i64) 3 w w.heap.size (fun k_=>(P0_ k_∨w.heap.size≤k_)) (.slice A0 l0.length c0) l0 from Kd.V_mono hs0 (fun k_ hk=>.inl hk))
 have HB:=Zz.mk (Below.refl w.heap.size w)
 have H:(spec_l1Put.l0 k l0 a1 0)=some r:=h
 clear h
 have H':=Zz.mk H
 clear H
 go_enter Tryz.func43,Tryz.ntmps43
 go_wp2
 go_loopg [5] k (fun kq v5 w'=>∃ (x5_1:Int),v5=.int .i64 x5_1∧Zz (spec_l1Put.l0 kq l0 a1 x5_1=some r)∧Zz (kq≤k)∧Zz (Kd.V (Kd.int .i64) 3 w' w.heap.size (fun k_=>(P0_ k_∨w.heap.size≤k_)) (.slice A0 l0.length c0) l0)∧Zz (Below w.heap.size w w'))
 case atStart=>exact ⟨(0),(by first|rfl|(simp;done)|(simp [*];done)),H',⟨Nat.le_refl _⟩,⟨by (with_reducible repeat (first|apply Kd.V_alloc|apply Kd.V_drewN|apply Kd.V_drew));exact HO0.out⟩,⟨by repeat (first|(with_reducible first|exact HB.out|apply qA|apply qN|apply q1_)|exact HB.out)⟩⟩
 case round =>
  clear H'
  try clear p2
  obtain ⟨x5_1,rfl,HA,HK1,HO_0,HB⟩:=hrel
  cases gk with
  | zero=>exact absurd HA.out (by simp [spec_l1Put.l0])
  | succ k1 =>
   have H:=HA.out
   clear HA
   simp only [spec_l1Put.l0] at H
   by_cases c3:x5_1<(l0.length:Int)
   ·rw [if_pos c3] at H
    have c3b0:decide (x5_1<(l0.length:Int))=true:=decide_eq_true c3
    clear c3
    by_cases c4:0≤x5_1
    ·rw [if_pos c4] at H
     have c4b0:decide (0≤x5_1)=true:=decide_eq_true c4
     clear c4
     by_cases c5:(rd l0 x5_1)<a1
     ·rw [if_pos c5] at H
      have c5b0:decide ((rd l0 x5_1)<a1)=true:=decide_eq_true c5
      clear c5
      have H':=Zz.mk H
      clear H
      have p303:0≤(x5_1:Int):=of_decide_eq_true (by first|(with_reducible assumption)|assumption)
      have q303:x5_1<(l0.length:Int):=of_decide_eq_true (by first|(with_reducible assumption)|assumption)
      obtain ⟨ad303,e303,hx303_0⟩:=Kd.at_int (Kd.V_reads' HO_0.out).2.2 x5_1 p303 q303
      cases e303
      replace p303:=eq_true p303
      replace q303:=eq_true q303
      go_wp2
      go_roundg k1
      case measure=>have:=HK1.out;omega
      case rel=>exact ⟨(wrap64 (x5_1+1)),(by first|rfl|(simp;done)|(simp [*];done)),H',⟨by have:=HK1.out;omega⟩,⟨by (with_reducible repeat (first|apply Kd.V_alloc|apply Kd.V_drewN|apply Kd.V_drew));exact HO_0.out⟩,⟨by repeat (first|(with_reducible first|exact HB.out|apply qA|apply qN|apply q1_)|exact HB.out)⟩⟩
     ·rw [if_neg c5] at H
      have c5b0:decide ((rd l0 x5_1)<a1)=false:=decide_eq_false c5
      clear c5
      by_cases c6:(rd l0 x5_1)=a1
      ·rw [if_pos c6] at H
       have c6b0:((rd l0 x5_1) == a1)=true:=beq_iff_eq.mpr c6
       have c6b1:((rd l0 x5_1) != a1)=false:=bne_eq_false_iff_eq.mpr c6
       clear c6
       obtain rfl:=Option.some.inj H
       have p303:0≤(x5_1:Int):=of_decide_eq_true (by first|(with_reducible assumption)|assumption)
       have q303:x5_1<(l0.length:Int):=of_decide_eq_true (by first|(with_reducible assumption)|assumption)
       obtain ⟨ad303,e303,hx303_0⟩:=Kd.at_int (Kd.V_reads' HO_0.out).2.2 x5_1 p303 q303
       cases e303
       replace p303:=eq_true p303
       replace q303:=eq_true q303
       have p304:0≤(x5_1:Int):=of_decide_eq_true (by first|(with_reducible assumption)|assumption)
       have q304:x5_1<(l0.length:Int):=of_decide_eq_true (by first|(with_reducible assumption)|assumption)
       obtain ⟨ad304,e304,hx304_0⟩:=Kd.at_int (Kd.V_reads' HO_0.out).2.2 x5_1 p304 q304
       obtain rfl:ad303=ad304:=(by injection e304)
       replace p304:=eq_true p304
       replace q304:=eq_true q304
       go_wp2
       go_ret
       exact ⟨_,by first|rfl|(simp [errW_none,errW_some] <;> rfl)|(simp [*,errW_none,errW_some] <;> rfl),by (with_reducible repeat (first|apply Kd.V_alloc|apply Kd.V_drewN|apply Kd.V_drew));exact HO_0.out,by repeat (first|(with_reducible first|exact HB.out|apply qA|apply qN|apply q1_)|exact HB.out)⟩
      ·rw [if_neg c6] at H
       have c6b0:((rd l0 x5_1) == a1)=false:=beq_eq_false_iff_ne.mpr c6
       have c6b1:((rd l0 x5_1) != a1)=true:=bne_iff_ne.mpr c6
       obtain ⟨y305,hy305⟩:∃ y_:List Int,y_=(([]:List Int)):=⟨_,rfl⟩
       replace H:(if x5_1≤(l0.length:Int) then ((some (l0.take (x5_1:Int).toNat:List Int)).bind fun y308=>(if y305.length+y308.length<17592186044416 then ((some (y305 ++ y308:List Int)).bind fun y313=>((some (([a1]:List Int):List Int)).bind fun y316=>(if y313.length+y316.length<17592186044416 then ((some (y313 ++ y316:List Int)).bind fun y319=>((some (l0.drop (x5_1:Int).toNat:List Int)).bind fun y322=>(if y319.length+y322.length<17592186044416 then (some (y319 ++ y322)) else (none)))) else (none)))) else (none))) else (none))=some r:=by first|(rw [hy305];with_reducible exact H)|(have H2_:=(Option.bind_some _ _).symm.trans H;rw [hy305];with_reducible exact H2_)|(have H2_:=(Option.bind_some _ _).symm.trans H;with_reducible exact H2_)|with_reducible exact H|(rw [hy305];exact H)|exact H
       have Ny305:=Zz.mk hy305
       clear hy305
       have c7b0:=eq_true (of_decide_eq_true (by first|(with_reducible assumption)|assumption):0≤x5_1)
       by_cases c8:x5_1≤(l0.length:Int)
       ·rw [if_pos c8] at H
        have c8b0:=eq_true c8
        have c8b1:decide (x5_1≤(l0.length:Int))=true:=decide_eq_true c8
        clear c8
        obtain ⟨y308,hy308⟩:∃ y_:List Int,y_=(l0.take (x5_1:Int).toNat):=⟨_,rfl⟩
        replace H:(if y305.length+y308.length<17592186044416 then ((some (y305 ++ y308:List Int)).bind fun y313=>((some (([a1]:List Int):List Int)).bind fun y316=>(if y313.length+y316.length<17592186044416 then ((some (y313 ++ y316:List Int)).bind fun y319=>((some (l0.drop (x5_1:Int).toNat:List Int)).bind fun y322=>(if y319.length+y322.length<17592186044416 then (some (y319 ++ y322)) else (none)))) else (none)))) else (none))=some r:=by first|(rw [hy308];with_reducible exact H)|(have H2_:=(Option.bind_some _ _).symm.trans H;rw [hy308];with_reducible exact H2_)|(have H2_:=(Option.bind_some _ _).symm.trans H;with_reducible exact H2_)|with_reducible exact H|(rw [hy308];exact H)|exact H
        have Ny308:=Zz.mk hy308
        clear hy308
        by_cases c9:y305.length+y308.length<17592186044416
        ·rw [if_pos c9] at H
         have LMc9:=Zz.mk c9
         clear c9
         obtain ⟨y313,hy313⟩:∃ y_:List Int,y_=(y305 ++ y308):=⟨_,rfl⟩
         replace H:((some (([a1]:List Int):List Int)).bind fun y316=>(if y313.length+y316.length<17592186044416 then ((some (y313 ++ y316:List Int)).bind fun y319=>((some (l0.drop (x5_1:Int).toNat:List Int)).bind fun y322=>(if y319.length+y322.length<17592186044416 then (some (y319 ++ y322)) else (none)))) else (none)))=some r:=by first|(rw [hy313];with_reducible exact H)|(have H2_:=(Option.bind_some _ _).symm.trans H;rw [hy313];with_reducible exact H2_)|(have H2_:=(Option.bind_some _ _).symm.trans H;with_reducible exact H2_)|with_reducible exact H|(rw [hy313];exact H)|exact H
         have Ny313:=Zz.mk hy313
         clear hy313
         obtain ⟨y316,hy316⟩:∃ y_:List Int,y_=(([a1]:List Int)):=⟨_,rfl⟩
         replace H:(if y313.length+y316.length<17592186044416 then ((some (y313 ++ y316:List Int)).bind fun y319=>((some (l0.drop (x5_1:Int).toNat:List Int)).bind fun y322=>(if y319.length+y322.length<17592186044416 then (some (y319 ++ y322)) else (none)))) else (none))=some r:=by first|(rw [hy316];with_reducible exact H)|(have H2_:=(Option.bind_some _ _).symm.trans H;rw [hy316];with_reducible exact H2_)|(have H2_:=(Option.bind_some _ _).symm.trans H;with_reducible exact H2_)|with_reducible exact H|(rw [hy316];exact H)|exact H
         have Ny316:=Zz.mk hy316
         clear hy316
         by_cases c10:y313.length+y316.length<17592186044416
         ·rw [if_pos c10] at H
          have LMc10:=Zz.mk c10
          clear c10
          obtain ⟨y319,hy319⟩:∃ y_:List Int,y_=(y313 ++ y316):=⟨_,rfl⟩
          replace H:((some (l0.drop (x5_1:Int).toNat:List Int)).bind fun y322=>(if y319.length+y322.length<17592186044416 then (some (y319 ++ y322)) else (none)))=some r:=by first|(rw [hy319];with_reducible exact H)|(have H2_:=(Option.bind_some _ _).symm.trans H;rw [hy319];with_reducible exact H2_)|(have H2_:=(Option.bind_some _ _).symm.trans H;with_reducible exact H2_)|with_reducible exact H|(rw [hy319];exact H)|exact H
          have Ny319:=Zz.mk hy319
          clear hy319
          have c11b0:=eq_true (of_decide_eq_true (by first|(with_reducible assumption)|assumption):0≤x5_1)
          have c12b0:=eq_true (of_decide_eq_true (by first|(with_reducible assumption)|assumption):x5_1≤(l0.length:Int))
          obtain ⟨y322,hy322⟩:∃ y_:List Int,y_=(l0.drop (x5_1:Int).toNat):=⟨_,rfl⟩
          replace H:(if y319.length+y322.length<17592186044416 then (some (y319 ++ y322)) else (none))=some r:=by first|(rw [hy322];with_reducible exact H)|(have H2_:=(Option.bind_some _ _).symm.trans H;rw [hy322];with_reducible exact H2_)|(have H2_:=(Option.bind_some _ _).symm.trans H;with_reducible exact H2_)|with_reducible exact H|(rw [hy322];exact H)|exact H
          have Ny322:=Zz.mk hy322
          clear hy322
          by_cases c13:y319.length+y322.length<17592186044416
          ·rw [if_pos c13] at H
           have LMc13:=Zz.mk c13
           clear c13
           obtain ⟨y327,hy327⟩:∃ y_:List Int,y_=(y319 ++ y322):=⟨_,rfl⟩
           replace H:(some y327)=some r:=by first|(rw [hy327];with_reducible exact H)|(have H2_:=(Option.bind_some _ _).symm.trans H;rw [hy327];with_reducible exact H2_)|(have H2_:=(Option.bind_some _ _).symm.trans H;with_reducible exact H2_)|with_reducible exact H|(rw [hy327];exact H)|exact H
           have Ny327:=Zz.mk hy327
           clear hy327
           obtain rfl:=Option.some.inj H
           have p303:0≤(x5_1:Int):=of_decide_eq_true (by first|(with_reducible assumption)|assumption)
           have q303:x5_1<(l0.length:Int):=of_decide_eq_true (by first|(with_reducible assumption)|assumption)
           obtain ⟨ad303,e303,hx303_0⟩:=Kd.at_int (Kd.V_reads' HO_0.out).2.2 x5_1 p303 q303
           cases e303
           replace p303:=eq_true p303
           replace q303:=eq_true q303
           have p304:0≤(x5_1:Int):=of_decide_eq_true (by first|(with_reducible assumption)|assumption)
           have q304:x5_1<(l0.length:Int):=of_decide_eq_true (by first|(with_reducible assumption)|assumption)
           obtain ⟨ad304,e304,hx304_0⟩:=Kd.at_int (Kd.V_reads' HO_0.out).2.2 x5_1 p304 q304
           obtain rfl:ad303=ad304:=(by injection e304)
           replace p304:=eq_true p304
           replace q304:=eq_true q304
           try go_wp2
           have n0_:=Zz.mk (Kd.V_drew HO_0.out)
           have n1_:=Zz.mk (q1_ HB.out)
           revert n0_ n1_
           clear HO_0 HB
           intro HO_0 HB
           have q15:(x5_1:Int)≤((l0.length:Int):Int):=of_decide_eq_true (by first|(with_reducible assumption)|assumption)
           obtain ⟨i015,hi015,_,hsz15,_⟩:=info_parts info3
           have hroom15:l0.length≤c0:=(Kd.V_reads' HO_0.out).2.1
           have hC15:Kd.F (Kd.int .i64) _ _ (some ad303) l0.length l0:=(Kd.V_at (base:=w.heap.size) HO_0.out).2.2
           have hcut15:=cut_to (P:=Tryz.prog) 38 3 .i64 Tryz.underlying38 hi015 (some ad303) l0.length c0 x5_1 (of_decide_eq_true (by first|(with_reducible assumption)|assumption)) q15 hroom15
           have hr15:=Kd.F_take (m:=(x5_1:Int).toNat) hC15 (by omega)
           have hy15:y308.length=(x5_1:Int).toNat:=(by rw [Ny308.out,List.length_take];omega)
           rw [← Ny308.out] at hr15
           rw [← hy15] at hcut15
           have HO312:=Zz.mk (show Kd.V (Kd.int .i64) 3 _ w.heap.size _ (.slice (some ad303) y308.length c0) y308 from Kd.V_mk (by omega) hr15)
           have HC312:=Zz.mk (show y308.length≤c0 from by omega)
           clear hr15 hC15 hroom15 hi015 hsz15
           have KY15:=Zz.mk hy15
           clear hy15
           replace q15:=eq_true q15
           have q16:(x5_1:Int)≤((l0.length:Int):Int):=of_decide_eq_true (by first|(with_reducible assumption)|assumption)
           obtain ⟨i016,hi016,_,hsz16,_⟩:=info_parts info3
           have hroom16:l0.length≤c0:=(Kd.V_reads' HO_0.out).2.1
           have hC16:Kd.F (Kd.int .i64) _ _ (some ad303) l0.length l0:=(Kd.V_at (base:=w.heap.size) HO_0.out).2.2
           have q016:(0:Int)≤(x5_1:Int):=of_decide_eq_true (by first|(with_reducible assumption)|assumption)
           have hcut16:=cut_from (P:=Tryz.prog) 38 3 .i64 Tryz.underlying38 hi016 1 hsz16 (some ad303) l0.length c0 x5_1 q016 q16
           have hr16:=Kd.F_cut (m:=(x5_1:Int).toNat) (c:=c0) hC16 (by omega) hroom16
           obtain ⟨A16,hA16⟩:∃ A1,A1=(if c0=(x5_1:Int).toNat then (some ad303) else ((some ad303):Option Addr).map (·.add ((x5_1:Int).toNat * 1))):=⟨_,rfl⟩
           obtain ⟨c16,hc16⟩:∃ c1,c1=c0 - (x5_1:Int).toNat:=⟨_,rfl⟩
           have hy16:y322.length=l0.length - (x5_1:Int).toNat:=(by rw [Ny322.out,List.length_drop] <;> omega)
           rw [show (l0).drop (x5_1:Int).toNat=y322 from Ny322.out.symm] at hr16
           replace hr16:Kd.F (Kd.int .i64) _ _ A16 y322.length y322:=(by rw [hA16];exact hr16)
           rw [← hy16,← hA16,← hc16] at hcut16
           have HO326:=Zz.mk (show Kd.V (Kd.int .i64) 3 _ w.heap.size _ (.slice A16 y322.length c16) y322 from Kd.V_mk (by rw [hy16,hc16];exact Nat.sub_le_sub_right hroom16 _) hr16)
           have HC326:=Zz.mk (show y322.length≤c16 from by rw [hy16,hc16];exact Nat.sub_le_sub_right hroom16 _)
           clear hr16 hC16 hroom16 hi016 hsz16 hc16
           have KY16:=Zz.mk hy16
           have KA16:=Zz.mk hA16
           clear hy16 hA16
           replace q16:=eq_true q16
           refine start_ (n:=13) (S:=fun w'=>True) (ds:=[]) #[false,false,false,false,false,false,false,false,false,false,false,false,false] (by kernel_rfl) rfl rfl trivial (fun hHeld=>?_);refine with_tabW spec_l1Put.tab6 spec_l1Put.bits6 (fun HT_ HW_=>?_)
           generalize wr.drew=w14 at HO_0 HB HO312 HO326 hHeld ⊢
           refine pure_ (i:=1) (N:=some 34) (v:=?_) (a':=?_) #[false,true,false,false,false,false,false,false,false,false,false,false,false] rfl rfl (any_of HT_.out (by kernel_rfl)) (fun _ _ _ h=>h) (Or.inl ⟨by rfl,?_⟩) ?_ ?_
           rotate_left
           ·intro w'
            go_simp
            with_reducible rfl
           rotate_left
           ·simp only [Act.put,List.setIfInBounds_toArray,List.set_cons_zero,List.set_cons_succ,i64_w,i32_w]
            rfl
           refine pure_ (i:=2) (N:=some 35) (v:=?_) (a':=?_) #[false,true,true,false,false,false,false,false,false,false,false,false,false] rfl rfl (any_of HT_.out (by kernel_rfl)) (fun _ _ _ h=>h) (Or.inl ⟨by rfl,?_⟩) ?_ ?_
           rotate_left
           ·intro w'
            go_simp
            with_reducible rfl
           rotate_left
           ·simp only [Act.put,List.setIfInBounds_toArray,List.set_cons_zero,List.set_cons_succ,i64_w,i32_w]
            rfl
           refine pure_ (i:=3) (N:=some 36) (v:=?_) (a':=?_) #[false,true,true,true,false,false,false,false,false,false,false,false,false] rfl rfl (any_of HT_.out (by kernel_rfl)) (fun _ _ _ h=>h) (Or.inl ⟨by rfl,?_⟩) ?_ ?_
           rotate_left
           ·intro w'
            go_simp
            with_reducible rfl
           rotate_left
           ·simp only [Act.put,List.setIfInBounds_toArray,List.set_cons_zero,List.set_cons_succ,i64_w,i32_w]
            rfl
           refine pure_ (i:=5) (N:=some 38) (v:=?_) (a':=?_) #[false,true,true,true,false,true,false,false,false,false,false,false,false] rfl rfl (any_of HT_.out (by kernel_rfl)) (fun _ _ _ h=>h) (Or.inl ⟨by rfl,?_⟩) ?_ ?_
           rotate_left
           ·intro w'
            go_simp
            with_reducible rfl
           rotate_left
           ·simp only [Act.put,List.setIfInBounds_toArray,List.set_cons_zero,List.set_cons_succ,i64_w,i32_w]
            rfl
           refine pure_ (i:=8) (N:=some 41) (v:=?_) (a':=?_) #[false,true,true,true,false,true,false,false,true,false,false,false,false] rfl rfl (any_of HT_.out (by kernel_rfl)) (fun _ _ _ h=>h) (Or.inl ⟨by rfl,?_⟩) ?_ ?_
           rotate_left
           ·intro w'
            go_simp
            with_reducible rfl
           rotate_left
           ·simp only [Act.put,List.setIfInBounds_toArray,List.set_cons_zero,List.set_cons_succ,i64_w,i32_w]
            rfl
           refine pure_ (i:=9) (N:=some 42) (v:=?_) (a':=?_) #[false,true,true,true,false,true,false,false,true,true,false,false,false] rfl rfl (any_of HT_.out (by kernel_rfl)) (fun _ _ _ h=>h) (Or.inl ⟨by rfl,?_⟩) ?_ ?_
           rotate_left
           ·intro w'
            go_simp
            with_reducible rfl
           rotate_left
           ·simp only [Act.put,List.setIfInBounds_toArray,List.set_cons_zero,List.set_cons_succ,i64_w,i32_w]
            rfl
           refine pure_ (i:=10) (N:=some 43) (v:=?_) (a':=?_) #[false,true,true,true,false,true,false,false,true,true,true,false,false] rfl rfl (any_of HT_.out (by kernel_rfl)) (fun _ _ _ h=>h) (Or.inl ⟨by rfl,?_⟩) ?_ ?_
           rotate_left
           ·intro w'
            go_simp
            with_reducible rfl
           rotate_left
           ·simp only [Act.put,List.setIfInBounds_toArray,List.set_cons_zero,List.set_cons_succ,i64_w,i32_w]
            rfl
           refine join_ (σ:=Value × Value × Value) 3 #[true,true,true,true,true,true,true,false,true,true,true,false,false] (fun s_=>[(33,s_.1),(37,s_.2.1),(39,s_.2.2)]) (fun s_ w'=>(Kd.V (Kd.int .i64) 3 w' w.heap.size (fun k_=>(P0_ k_∨w.heap.size≤k_)∧some k_ ≠ (s_.2.1:Value).ownBlock∧some k_ ≠ (s_.2.2:Value).ownBlock) (.slice (some ad303) y308.length c0) y308)∧(Kd.R (Kd.int .i64) 3 w' w.heap.size (fun k_=>(w.heap.size≤k_)∧some k_ ≠ (s_.2.2:Value).ownBlock) s_.2.1 y313)∧(Kd.R (Kd.int .i64) 3 w' w.heap.size (fun k_=>(w.heap.size≤k_)∧some k_ ≠ (s_.2.1:Value).ownBlock) s_.2.2 y316)∧(Kd.V (Kd.int .i64) 3 w' w.heap.size (fun k_=>(P0_ k_∨w.heap.size≤k_)∧some k_ ≠ (s_.2.1:Value).ownBlock∧some k_ ≠ (s_.2.2:Value).ownBlock) (.slice A16 y322.length c16) y322)∧(Kd.V (Kd.int .i64) 3 w' w.heap.size (fun k_=>(P0_ k_∨w.heap.size≤k_)∧some k_ ≠ (s_.2.1:Value).ownBlock∧some k_ ≠ (s_.2.2:Value).ownBlock) (.slice (some ad303) l0.length c0) l0)∧(Below w.heap.size w w')) ?_ ?_
           rotate_left
           ·intro hCont
            refine two_ (i:=0) (j:=6) (Ni:=some 33) (Nj:=some 39) #[true,true,true,true,false,true,false,false,true,true,true,false,false] #[false,true,true,true,false,true,true,false,true,true,true,false,false] rfl rfl rfl rfl (two_of HT_.out (by kernel_rfl)) (by decide) (by decide) (fun K hK=>?_) (fun K hK=>?_)
            ·skip
             refine Kd.R_lit_step (Kd.int .i64) _ 3 ?hg (N:=33) ?hd (xs:=([]:List Int)) (inner:=[]) (ok:=fun _=>True) (okp:=fun _=>True) ?hr ?hp (fun _ hk=>hk) trivial (Below.refl _ _) (Nat.le_refl _) (by simp) ?_;(case hd=>rfl);(case hg=>rfl);(case hr=>first|(go_simp;done)|(go_simp;rfl));(case hp=>exact (Reps.none _ _))
             intro v306 w17 ho18 hb hg_ hnew_
             clear hg_ hnew_
             (first|rw [← Ny305.out] at ho18|(simp only [Int.reduceToNat] at ho18;rw [← Ny305.out] at ho18))
             have n0_:=Zz.mk (Kd.V_elder' (by (with_reducible repeat (first|apply Kd.V_alloc|apply Kd.V_drewN|apply Kd.V_drew));exact HO_0.out) (Kd.R_base ho18) hb)
             have n1_:=Zz.mk (Kd.V_elder' (by (with_reducible repeat (first|apply Kd.V_alloc|apply Kd.V_drewN|apply Kd.V_drew));exact HO312.out) (Kd.R_base ho18) hb)
             have n2_:=Zz.mk (Kd.V_elder' (by (with_reducible repeat (first|apply Kd.V_alloc|apply Kd.V_drewN|apply Kd.V_drew));exact HO326.out) (Kd.R_base ho18) hb)
             have n3_:=Zz.mk (Kd.R_lower (Kd.R_newM (M:=fun k_=>(w.heap.size≤k_)) ho18 (qZ HB.out) (fun k_ h_=>h_)) (qZ HB.out))
             have n4_:=Zz.mk (qP HB.out hb)
             revert n0_ n1_ n2_ n3_ n4_
             clear HO_0 HO312 HO326 HB
             intro HO_0 HO312 HO326 HO307 HB
             clear hb ho18
             refine hK.out _ _ trivial (fun hHeld=>?_)
             clear hK K
             refine norm_ (a':=?_) ?_ ?_
             rotate_left
             ·show Act.put _ (some 33) _=_
              simp only [Act.put,List.setIfInBounds_toArray,List.set_cons_zero,List.set_cons_succ,i64_w,i32_w]
              rfl
             refine two_ (i:=4) (j:=6) (Ni:=some 37) (Nj:=some 39) #[true,true,true,true,true,true,false,false,true,true,true,false,false] #[true,true,true,true,false,true,true,false,true,true,true,false,false] rfl rfl rfl rfl (two_of HT_.out (by kernel_rfl)) (by decide) (by decide) (fun K hK=>?_) (fun K hK=>?_)
             ·skip
              refine Kd.R_append_rows_step (Kd.int .i64) (w0:=w) w.heap.size (by rfl) (.tmp 33) (.tmp 36) 38 3 (.int .i64 0) 8 rfl Tryz.underlying38 info3 rfl (by decide) (by omega) v306 y305 y308 _ _ _ (fun k_=>(w.heap.size≤k_)) (fun _=>False) rfl rfl ?aO ?aR (fun _ _ h=>h) (fun _ h=>h.elim) ?aF ?aB ?aS ?aL ?_
              (case aR=>repeat (first|exact (Kd.V_reads' HO312.out).2.2|(with_reducible refine Kd.C_alloc ?_ _)|(with_reducible refine Kd.C_drewN ?_ _)|(with_reducible refine Kd.C_drew ?_)))
              (case aB=>exact (by repeat (first|(with_reducible first|exact HB.out|apply qA|apply qN|apply q1_)|exact HB.out)))
              (case aF=>exact (fun k_ hk=>(Nat.le_trans (qZ (by repeat (first|(with_reducible first|exact HB.out|apply qA|apply qN|apply q1_)|exact HB.out))) hk)))
              (case aO=>exact (by (with_reducible repeat first|apply Kd.R_alloc|apply Kd.R_drewN|apply Kd.R_drew);exact Kd.R_mono HO307.out (fun _ hk=>hk.1)))
              (case aS=>exact (qZ (by repeat (first|(with_reducible first|exact HB.out|apply qA|apply qN|apply q1_)|exact HB.out))))
              (case aL=>have:=LMc9.out;omega)
              intro v314 w19 ho hb hg hat
              rw [← Ny313.out] at ho
              have n0_:=Zz.mk (Kd.V_afterv (ok:=(fun k_=>(P0_ k_∨w.heap.size≤k_))) (by (with_reducible repeat (first|apply Kd.V_alloc|apply Kd.V_drewN|apply Kd.V_drew));exact HO_0.out) hg hat)
              have n1_:=Zz.mk (Kd.V_afterv (ok:=(fun k_=>(P0_ k_∨w.heap.size≤k_))) (by (with_reducible repeat (first|apply Kd.V_alloc|apply Kd.V_drewN|apply Kd.V_drew));exact HO312.out) hg hat)
              have n2_:=Zz.mk (Kd.V_afterv (ok:=(fun k_=>(P0_ k_∨w.heap.size≤k_))) (by (with_reducible repeat (first|apply Kd.V_alloc|apply Kd.V_drewN|apply Kd.V_drew));exact HO326.out) hg hat)
              have n3_:=Zz.mk (hb)
              have n4_:=Zz.mk (ho)
              revert n0_ n1_ n2_ n3_ n4_
              clear HO_0 HO312 HO326 HB HO307
              intro HO_0 HO312 HO326 HB HO315
              clear ho hb hg hat
              refine hK.out _ _ trivial (fun hHeld=>?_)
              clear hK K
              refine norm_ (a':=?_) ?_ ?_
              rotate_left
              ·show Act.put _ (some 37) _=_
               simp only [Act.put,List.setIfInBounds_toArray,List.set_cons_zero,List.set_cons_succ,i64_w,i32_w]
               rfl
              refine one_ (i:=6) (N:=some 39) #[true,true,true,true,true,true,true,false,true,true,true,false,false] rfl rfl (one_of HT_.out (by kernel_rfl)) (by decide) (fun K hK=>?_)
              refine Kd.R_lit_step (Kd.int .i64) _ 3 ?hg (N:=39) ?hd (xs:=([a1]:List Int)) (inner:=[.int .i64 a1]) (ok:=fun _=>True) (okp:=fun _=>True) ?hr ?hp (fun _ hk=>hk) trivial (Below.refl _ _) (Nat.le_refl _) (by simp) ?_;(case hd=>rfl);(case hg=>rfl);(case hr=>first|(go_simp;done)|(go_simp;rfl));(case hp=>exact (Reps.one (show Kd.M (Kd.int .i64) _ _ _ a1 [.int .i64 a1] from rfl) (Reps.none _ _)))
              intro v317 w20 ho21 hb hg_ hnew_
              clear hg_ hnew_
              (first|rw [← Ny316.out] at ho21|(simp only [Int.reduceToNat] at ho21;rw [← Ny316.out] at ho21))
              have n0_:=Zz.mk (Kd.V_elder' (by (with_reducible repeat (first|apply Kd.V_alloc|apply Kd.V_drewN|apply Kd.V_drew));exact HO_0.out) (Kd.R_base ho21) hb)
              have n1_:=Zz.mk (Kd.V_elder' (by (with_reducible repeat (first|apply Kd.V_alloc|apply Kd.V_drewN|apply Kd.V_drew));exact HO312.out) (Kd.R_base ho21) hb)
              have n2_:=Zz.mk (Kd.V_elder' (by (with_reducible repeat (first|apply Kd.V_alloc|apply Kd.V_drewN|apply Kd.V_drew));exact HO326.out) (Kd.R_base ho21) hb)
              have n3_:=Zz.mk (Kd.R_elder' HO315.out (Kd.R_base ho21) hb)
              have n4_:=Zz.mk (Kd.R_lower (Kd.R_new' (Kd.R_newM (M:=fun k_=>(w.heap.size≤k_)) ho21 (qZ HB.out) (fun k_ h_=>h_)) (Kd.R_lt HO315.out)) (qZ HB.out))
              have n5_:=Zz.mk (qP HB.out hb)
              revert n0_ n1_ n2_ n3_ n4_ n5_
              clear HO_0 HO312 HO326 HO315 HB
              intro HO_0 HO312 HO326 HO315 HO318 HB
              clear hb ho21
              refine hK.out _ _ trivial (fun hHeld=>?_)
              clear hK K
              refine norm_ (a':=?_) ?_ ?_
              rotate_left
              ·show Act.put _ (some 39) _=_
               simp only [Act.put,List.setIfInBounds_toArray,List.set_cons_zero,List.set_cons_succ,i64_w,i32_w]
               rfl
              exact norm_ (by simp only [putAll,Act.put,List.setIfInBounds_toArray,List.set_cons_zero,List.set_cons_succ]) (hCont (v306,v314,v317) _ ⟨(by (with_reducible repeat (first|apply Kd.V_alloc|apply Kd.V_drewN|apply Kd.V_drew));exact Kd.V_mono HO312.out (fun _ hk=>⟨hk.1.1,⟨hk.1.2,hk.2⟩⟩)),HO315.out,(Kd.R_mono HO318.out (fun _ hk=>⟨hk.1.1,hk.2⟩)),(by (with_reducible repeat (first|apply Kd.V_alloc|apply Kd.V_drewN|apply Kd.V_drew));exact Kd.V_mono HO326.out (fun _ hk=>⟨hk.1.1,⟨hk.1.2,hk.2⟩⟩)),(by (with_reducible repeat (first|apply Kd.V_alloc|apply Kd.V_drewN|apply Kd.V_drew));exact Kd.V_mono HO_0.out (fun _ hk=>⟨hk.1.1,⟨hk.1.2,hk.2⟩⟩)),HB.out⟩)
             ·skip
              refine Kd.R_lit_step (Kd.int .i64) _ 3 ?hg (N:=39) ?hd (xs:=([a1]:List Int)) (inner:=[.int .i64 a1]) (ok:=fun _=>True) (okp:=fun _=>True) ?hr ?hp (fun _ hk=>hk) trivial (Below.refl _ _) (Nat.le_refl _) (by simp) ?_;(case hd=>rfl);(case hg=>rfl);(case hr=>first|(go_simp;done)|(go_simp;rfl));(case hp=>exact (Reps.one (show Kd.M (Kd.int .i64) _ _ _ a1 [.int .i64 a1] from rfl) (Reps.none _ _)))
              intro v317 w19 ho20 hb hg_ hnew_
              clear hg_ hnew_
              (first|rw [← Ny316.out] at ho20|(simp only [Int.reduceToNat] at ho20;rw [← Ny316.out] at ho20))
              have n0_:=Zz.mk (Kd.V_elder' (by (with_reducible repeat (first|apply Kd.V_alloc|apply Kd.V_drewN|apply Kd.V_drew));exact HO_0.out) (Kd.R_base ho20) hb)
              have n1_:=Zz.mk (Kd.V_elder' (by (with_reducible repeat (first|apply Kd.V_alloc|apply Kd.V_drewN|apply Kd.V_drew));exact HO312.out) (Kd.R_base ho20) hb)
              have n2_:=Zz.mk (Kd.V_elder' (by (with_reducible repeat (first|apply Kd.V_alloc|apply Kd.V_drewN|apply Kd.V_drew));exact HO326.out) (Kd.R_base ho20) hb)
              have n3_:=Zz.mk (Kd.R_elder' HO307.out (Kd.R_base ho20) hb)
              have n4_:=Zz.mk (Kd.R_lower (Kd.R_new' (Kd.R_newM (M:=fun k_=>(w.heap.size≤k_)) ho20 (qZ HB.out) (fun k_ h_=>h_)) (Kd.R_lt HO307.out)) (qZ HB.out))
              have n5_:=Zz.mk (qP HB.out hb)
              revert n0_ n1_ n2_ n3_ n4_ n5_
              clear HO_0 HO312 HO326 HO307 HB
              intro HO_0 HO312 HO326 HO307 HO318 HB
              clear hb ho20
              refine hK.out _ _ trivial (fun hHeld=>?_)
              clear hK K
              refine norm_ (a':=?_) ?_ ?_
              rotate_left
              ·show Act.put _ (some 39) _=_
               simp only [Act.put,List.setIfInBounds_toArray,List.set_cons_zero,List.set_cons_succ,i64_w,i32_w]
               rfl
              refine one_ (i:=4) (N:=some 37) #[true,true,true,true,true,true,true,false,true,true,true,false,false] rfl rfl (one_of HT_.out (by kernel_rfl)) (by decide) (fun K hK=>?_)
              refine Kd.R_append_rows_step (Kd.int .i64) (w0:=w) w.heap.size (by rfl) (.tmp 33) (.tmp 36) 38 3 (.int .i64 0) 8 rfl Tryz.underlying38 info3 rfl (by decide) (by omega) v306 y305 y308 _ _ _ (fun k_=>(w.heap.size≤k_)∧some k_ ≠ (v317:Value).ownBlock) (fun _=>False) rfl rfl ?aO ?aR (fun _ _ h=>h) (fun _ h=>h.elim) ?aF ?aB ?aS ?aL ?_
              (case aR=>repeat (first|exact (Kd.V_reads' HO312.out).2.2|(with_reducible refine Kd.C_alloc ?_ _)|(with_reducible refine Kd.C_drewN ?_ _)|(with_reducible refine Kd.C_drew ?_)))
              (case aB=>exact (by repeat (first|(with_reducible first|exact HB.out|apply qA|apply qN|apply q1_)|exact HB.out)))
              (case aF=>exact (fun k_ hk=>⟨(Nat.le_trans (qZ (by repeat (first|(with_reducible first|exact HB.out|apply qA|apply qN|apply q1_)|exact HB.out))) hk),Kd.fresh' (Kd.R_lt (by (with_reducible repeat first|apply Kd.R_alloc|apply Kd.R_drewN|apply Kd.R_drew);exact HO318.out)) k_ hk⟩))
              (case aO=>exact (by (with_reducible repeat first|apply Kd.R_alloc|apply Kd.R_drewN|apply Kd.R_drew);exact Kd.R_mono HO307.out (fun _ hk=>⟨hk.1.1,hk.2⟩)))
              (case aS=>exact (qZ (by repeat (first|(with_reducible first|exact HB.out|apply qA|apply qN|apply q1_)|exact HB.out))))
              (case aL=>have:=LMc9.out;omega)
              intro v314 w21 ho hb hg hat
              rw [← Ny313.out] at ho
              have n0_:=Zz.mk (Kd.V_afterv (ok:=(fun k_=>(P0_ k_∨w.heap.size≤k_)∧some k_ ≠ (v317:Value).ownBlock)) (by (with_reducible repeat (first|apply Kd.V_alloc|apply Kd.V_drewN|apply Kd.V_drew));exact Kd.V_mono HO_0.out (fun _ hk=>⟨⟨hk.1.1,hk.2⟩,hk.1.2⟩)) hg hat)
              have n1_:=Zz.mk (Kd.V_afterv (ok:=(fun k_=>(P0_ k_∨w.heap.size≤k_)∧some k_ ≠ (v317:Value).ownBlock)) (by (with_reducible repeat (first|apply Kd.V_alloc|apply Kd.V_drewN|apply Kd.V_drew));exact Kd.V_mono HO312.out (fun _ hk=>⟨⟨hk.1.1,hk.2⟩,hk.1.2⟩)) hg hat)
              have n2_:=Zz.mk (Kd.V_afterv (ok:=(fun k_=>(P0_ k_∨w.heap.size≤k_)∧some k_ ≠ (v317:Value).ownBlock)) (by (with_reducible repeat (first|apply Kd.V_alloc|apply Kd.V_drewN|apply Kd.V_drew));exact Kd.V_mono HO326.out (fun _ hk=>⟨⟨hk.1.1,hk.2⟩,hk.1.2⟩)) hg hat)
              have n3_:=Zz.mk (Kd.R_after (ok:=(fun k_=>(w.heap.size≤k_))) (Kd.R_mono HO318.out (fun _ hk=>⟨hk.1.1,hk.2⟩)) hg hat)
              have n4_:=Zz.mk (hb)
              have n5_:=Zz.mk (ho)
              revert n0_ n1_ n2_ n3_ n4_ n5_
              clear HO_0 HO312 HO326 HO318 HB HO307
              intro HO_0 HO312 HO326 HO318 HB HO315
              clear ho hb hg hat
              refine hK.out _ _ trivial (fun hHeld=>?_)
              clear hK K
              refine norm_ (a':=?_) ?_ ?_
              rotate_left
              ·show Act.put _ (some 37) _=_
               simp only [Act.put,List.setIfInBounds_toArray,List.set_cons_zero,List.set_cons_succ,i64_w,i32_w]
               rfl
              exact norm_ (by simp only [putAll,Act.put,List.setIfInBounds_toArray,List.set_cons_zero,List.set_cons_succ]) (hCont (v306,v314,v317) _ ⟨(by (with_reducible repeat (first|apply Kd.V_alloc|apply Kd.V_drewN|apply Kd.V_drew));exact Kd.V_mono HO312.out (fun _ hk=>⟨hk.1.1,⟨hk.2,hk.1.2⟩⟩)),HO315.out,HO318.out,(by (with_reducible repeat (first|apply Kd.V_alloc|apply Kd.V_drewN|apply Kd.V_drew));exact Kd.V_mono HO326.out (fun _ hk=>⟨hk.1.1,⟨hk.2,hk.1.2⟩⟩)),(by (with_reducible repeat (first|apply Kd.V_alloc|apply Kd.V_drewN|apply Kd.V_drew));exact Kd.V_mono HO_0.out (fun _ hk=>⟨hk.1.1,⟨hk.2,hk.1.2⟩⟩)),HB.out⟩)
            ·skip
             refine Kd.R_lit_step (Kd.int .i64) _ 3 ?hg (N:=39) ?hd (xs:=([a1]:List Int)) (inner:=[.int .i64 a1]) (ok:=fun _=>True) (okp:=fun _=>True) ?hr ?hp (fun _ hk=>hk) trivial (Below.refl _ _) (Nat.le_refl _) (by simp) ?_;(case hd=>rfl);(case hg=>rfl);(case hr=>first|(go_simp;done)|(go_simp;rfl));(case hp=>exact (Reps.one (show Kd.M (Kd.int .i64) _ _ _ a1 [.int .i64 a1] from rfl) (Reps.none _ _)))
             intro v317 w17 ho18 hb hg_ hnew_
             clear hg_ hnew_
             (first|rw [← Ny316.out] at ho18|(simp only [Int.reduceToNat] at ho18;rw [← Ny316.out] at ho18))
             have n0_:=Zz.mk (Kd.V_elder' (by (with_reducible repeat (first|apply Kd.V_alloc|apply Kd.V_drewN|apply Kd.V_drew));exact HO_0.out) (Kd.R_base ho18) hb)
             have n1_:=Zz.mk (Kd.V_elder' (by (with_reducible repeat (first|apply Kd.V_alloc|apply Kd.V_drewN|apply Kd.V_drew));exact HO312.out) (Kd.R_base ho18) hb)
             have n2_:=Zz.mk (Kd.V_elder' (by (with_reducible repeat (first|apply Kd.V_alloc|apply Kd.V_drewN|apply Kd.V_drew));exact HO326.out) (Kd.R_base ho18) hb)
             have n3_:=Zz.mk (Kd.R_lower (Kd.R_newM (M:=fun k_=>(w.heap.size≤k_)) ho18 (qZ HB.out) (fun k_ h_=>h_)) (qZ HB.out))
             have n4_:=Zz.mk (qP HB.out hb)
             revert n0_ n1_ n2_ n3_ n4_
             clear HO_0 HO312 HO326 HB
             intro HO_0 HO312 HO326 HO318 HB
             clear hb ho18
             refine hK.out _ _ trivial (fun hHeld=>?_)
             clear hK K
             refine norm_ (a':=?_) ?_ ?_
             rotate_left
             ·show Act.put _ (some 39) _=_
              simp only [Act.put,List.setIfInBounds_toArray,List.set_cons_zero,List.set_cons_succ,i64_w,i32_w]
              rfl
             refine one_ (i:=0) (N:=some 33) #[true,true,true,true,false,true,true,false,true,true,true,false,false] rfl rfl (one_of HT_.out (by kernel_rfl)) (by decide) (fun K hK=>?_)
             refine Kd.R_lit_step (Kd.int .i64) _ 3 ?hg (N:=33) ?hd (xs:=([]:List Int)) (inner:=[]) (ok:=fun _=>True) (okp:=fun _=>True) ?hr ?hp (fun _ hk=>hk) trivial (Below.refl _ _) (Nat.le_refl _) (by simp) ?_;(case hd=>rfl);(case hg=>rfl);(case hr=>first|(go_simp;done)|(go_simp;rfl));(case hp=>exact (Reps.none _ _))
             intro v306 w19 ho20 hb hg_ hnew_
             clear hg_ hnew_
             (first|rw [← Ny305.out] at ho20|(simp only [Int.reduceToNat] at ho20;rw [← Ny305.out] at ho20))
             have n0_:=Zz.mk (Kd.V_elder' (by (with_reducible repeat (first|apply Kd.V_alloc|apply Kd.V_drewN|apply Kd.V_drew));exact HO_0.out) (Kd.R_base ho20) hb)
             have n1_:=Zz.mk (Kd.V_elder' (by (with_reducible repeat (first|apply Kd.V_alloc|apply Kd.V_drewN|apply Kd.V_drew));exact HO312.out) (Kd.R_base ho20) hb)
             have n2_:=Zz.mk (Kd.V_elder' (by (with_reducible repeat (first|apply Kd.V_alloc|apply Kd.V_drewN|apply Kd.V_drew));exact HO326.out) (Kd.R_base ho20) hb)
             have n3_:=Zz.mk (Kd.R_elder' HO318.out (Kd.R_base ho20) hb)
             have n4_:=Zz.mk (Kd.R_lower (Kd.R_new' (Kd.R_newM (M:=fun k_=>(w.heap.size≤k_)) ho20 (qZ HB.out) (fun k_ h_=>h_)) (Kd.R_lt HO318.out)) (qZ HB.out))
             have n5_:=Zz.mk (qP HB.out hb)
             revert n0_ n1_ n2_ n3_ n4_ n5_
             clear HO_0 HO312 HO326 HO318 HB
             intro HO_0 HO312 HO326 HO318 HO307 HB
             clear hb ho20
             refine hK.out _ _ trivial (fun hHeld=>?_)
             clear hK K
             refine norm_ (a':=?_) ?_ ?_
             rotate_left
             ·show Act.put _ (some 33) _=_
              simp only [Act.put,List.setIfInBounds_toArray,List.set_cons_zero,List.set_cons_succ,i64_w,i32_w]
              rfl
             refine one_ (i:=4) (N:=some 37) #[true,true,true,true,true,true,true,false,true,true,true,false,false] rfl rfl (one_of HT_.out (by kernel_rfl)) (by decide) (fun K hK=>?_)
             refine Kd.R_append_rows_step (Kd.int .i64) (w0:=w) w.heap.size (by rfl) (.tmp 33) (.tmp 36) 38 3 (.int .i64 0) 8 rfl Tryz.underlying38 info3 rfl (by decide) (by omega) v306 y305 y308 _ _ _ (fun k_=>(w.heap.size≤k_)∧some k_ ≠ (v317:Value).ownBlock) (fun _=>False) rfl rfl ?aO ?aR (fun _ _ h=>h) (fun _ h=>h.elim) ?aF ?aB ?aS ?aL ?_
             (case aR=>repeat (first|exact (Kd.V_reads' HO312.out).2.2|(with_reducible refine Kd.C_alloc ?_ _)|(with_reducible refine Kd.C_drewN ?_ _)|(with_reducible refine Kd.C_drew ?_)))
             (case aB=>exact (by repeat (first|(with_reducible first|exact HB.out|apply qA|apply qN|apply q1_)|exact HB.out)))
             (case aF=>exact (fun k_ hk=>⟨(Nat.le_trans (qZ (by repeat (first|(with_reducible first|exact HB.out|apply qA|apply qN|apply q1_)|exact HB.out))) hk),Kd.fresh' (Kd.R_lt (by (with_reducible repeat first|apply Kd.R_alloc|apply Kd.R_drewN|apply Kd.R_drew);exact HO318.out)) k_ hk⟩))
             (case aO=>exact (by (with_reducible repeat first|apply Kd.R_alloc|apply Kd.R_drewN|apply Kd.R_drew);exact Kd.R_mono HO307.out (fun _ hk=>⟨hk.1.1,hk.2⟩)))
             (case aS=>exact (qZ (by repeat (first|(with_reducible first|exact HB.out|apply qA|apply qN|apply q1_)|exact HB.out))))
             (case aL=>have:=LMc9.out;omega)
             intro v314 w21 ho hb hg hat
             rw [← Ny313.out] at ho
             have n0_:=Zz.mk (Kd.V_afterv (ok:=(fun k_=>(P0_ k_∨w.heap.size≤k_)∧some k_ ≠ (v317:Value).ownBlock)) (by (with_reducible repeat (first|apply Kd.V_alloc|apply Kd.V_drewN|apply Kd.V_drew));exact HO_0.out) hg hat)
             have n1_:=Zz.mk (Kd.V_afterv (ok:=(fun k_=>(P0_ k_∨w.heap.size≤k_)∧some k_ ≠ (v317:Value).ownBlock)) (by (with_reducible repeat (first|apply Kd.V_alloc|apply Kd.V_drewN|apply Kd.V_drew));exact HO312.out) hg hat)
             have n2_:=Zz.mk (Kd.V_afterv (ok:=(fun k_=>(P0_ k_∨w.heap.size≤k_)∧some k_ ≠ (v317:Value).ownBlock)) (by (with_reducible repeat (first|apply Kd.V_alloc|apply Kd.V_drewN|apply Kd.V_drew));exact HO326.out) hg hat)
             have n3_:=Zz.mk (Kd.R_after (ok:=(fun k_=>(w.heap.size≤k_))) (Kd.R_mono HO318.out (fun _ hk=>⟨hk.1.1,hk.2⟩)) hg hat)
             have n4_:=Zz.mk (hb)
             have n5_:=Zz.mk (ho)
             revert n0_ n1_ n2_ n3_ n4_ n5_
             clear HO_0 HO312 HO326 HO318 HB HO307
             intro HO_0 HO312 HO326 HO318 HB HO315
             clear ho hb hg hat
             refine hK.out _ _ trivial (fun hHeld=>?_)
             clear hK K
             refine norm_ (a':=?_) ?_ ?_
             rotate_left
             ·show Act.put _ (some 37) _=_
              simp only [Act.put,List.setIfInBounds_toArray,List.set_cons_zero,List.set_cons_succ,i64_w,i32_w]
              rfl
             exact norm_ (by simp only [putAll,Act.put,List.setIfInBounds_toArray,List.set_cons_zero,List.set_cons_succ]) (hCont (v306,v314,v317) _ ⟨(by (with_reducible repeat (first|apply Kd.V_alloc|apply Kd.V_drewN|apply Kd.V_drew));exact Kd.V_mono HO312.out (fun _ hk=>⟨hk.1.1,⟨hk.2,hk.1.2⟩⟩)),HO315.out,HO318.out,(by (with_reducible repeat (first|apply Kd.V_alloc|apply Kd.V_drewN|apply Kd.V_drew));exact Kd.V_mono HO326.out (fun _ hk=>⟨hk.1.1,⟨hk.2,hk.1.2⟩⟩)),(by (with_reducible repeat (first|apply Kd.V_alloc|apply Kd.V_drewN|apply Kd.V_drew));exact Kd.V_mono HO_0.out (fun _ hk=>⟨hk.1.1,⟨hk.2,hk.1.2⟩⟩)),HB.out⟩)
           rintro ⟨v306,v314,v317⟩ w22 ⟨h0_,h1_,h2_,h3_,h4_,h5_⟩
           have n0_:Zz (Kd.V (Kd.int .i64) 3 w22 w.heap.size (fun k_=>(P0_ k_∨w.heap.size≤k_)∧some k_ ≠ (v314:Value).ownBlock∧some k_ ≠ (v317:Value).ownBlock) (.slice (some ad303) y308.length c0) y308):=⟨h0_⟩
           have n1_:Zz (Kd.R (Kd.int .i64) 3 w22 w.heap.size (fun k_=>(w.heap.size≤k_)∧some k_ ≠ (v317:Value).ownBlock) v314 y313):=⟨h1_⟩
           have n2_:Zz (Kd.R (Kd.int .i64) 3 w22 w.heap.size (fun k_=>(w.heap.size≤k_)∧some k_ ≠ (v314:Value).ownBlock) v317 y316):=⟨h2_⟩
           have n3_:Zz (Kd.V (Kd.int .i64) 3 w22 w.heap.size (fun k_=>(P0_ k_∨w.heap.size≤k_)∧some k_ ≠ (v314:Value).ownBlock∧some k_ ≠ (v317:Value).ownBlock) (.slice A16 y322.length c16) y322):=⟨h3_⟩
           have n4_:Zz (Kd.V (Kd.int .i64) 3 w22 w.heap.size (fun k_=>(P0_ k_∨w.heap.size≤k_)∧some k_ ≠ (v314:Value).ownBlock∧some k_ ≠ (v317:Value).ownBlock) (.slice (some ad303) l0.length c0) l0):=⟨h4_⟩
           have n5_:Zz (Below w.heap.size w w22):=⟨h5_⟩
           clear HO_0
           clear HB
           clear h0_ h1_ h2_ h3_ h4_ h5_
           have HO312:=n0_
           have HO315:=n1_
           have HO318:=n2_
           have HO326:=n3_
           have HO_0:=n4_
           have HB:=n5_
           clear n0_ n1_ n2_ n3_ n4_ n5_
           have hHeld:=trivial
           obtain ⟨Ao24,co24,eo24⟩:=Kd.R_slice HO318.out
           (first|subst eo24|(injection eo24 with f1_ f2_ f3_;have f4_:=f1_.symm;have f5_:=f3_.symm;clear f1_ f2_ f3_;subst f4_;subst f5_))
           refine norm_ (a':=?_) ?_ ?_
           rotate_left
           ·simp only [putAll,Act.put,List.setIfInBounds_toArray,List.set_cons_zero,List.set_cons_succ]
            rfl
           refine one_ (i:=7) (N:=some 40) #[true,true,true,true,true,true,true,true,true,true,true,false,false] rfl rfl (one_of HT_.out (by kernel_rfl)) (by decide) (fun K hK=>?_)
           refine Kd.R_append_rows_step (Kd.int .i64) (w0:=w) w.heap.size (by rfl) (.tmp 37) (.tmp 39) 38 3 (.int .i64 0) 8 rfl Tryz.underlying38 info3 rfl (by decide) (by omega) v314 y313 y316 _ _ _ (fun k_=>(w.heap.size≤k_)∧some k_ ≠ (.slice Ao24 y316.length co24:Value).ownBlock) (fun _=>False) rfl rfl ?aO ?aR (fun _ _ h=>h) (fun _ h=>h.elim) ?aF ?aB ?aS ?aL ?_
           (case aR=>repeat (first|exact (Kd.R_reads' HO318.out).2.2|(with_reducible refine Kd.C_alloc ?_ _)|(with_reducible refine Kd.C_drewN ?_ _)|(with_reducible refine Kd.C_drew ?_)))
           (case aB=>exact (by repeat (first|(with_reducible first|exact HB.out|apply qA|apply qN|apply q1_)|exact HB.out)))
           (case aF=>exact (fun k_ hk=>⟨(Nat.le_trans (qZ (by repeat (first|(with_reducible first|exact HB.out|apply qA|apply qN|apply q1_)|exact HB.out))) hk),Kd.fresh' (Kd.R_lt (by (with_reducible repeat first|apply Kd.R_alloc|apply Kd.R_drewN|apply Kd.R_drew);exact HO318.out)) k_ hk⟩))
           (case aO=>exact (by (with_reducible repeat first|apply Kd.R_alloc|apply Kd.R_drewN|apply Kd.R_drew);exact HO315.out))
           (case aS=>exact (qZ (by repeat (first|(with_reducible first|exact HB.out|apply qA|apply qN|apply q1_)|exact HB.out))))
           (case aL=>have:=LMc10.out;omega)
           intro v320 w23 ho hb hg hat
           rw [← Ny319.out] at ho
           have n0_:=Zz.mk (Kd.V_afterv (ok:=(fun k_=>(P0_ k_∨w.heap.size≤k_)∧some k_ ≠ (.slice Ao24 y316.length co24:Value).ownBlock)) (by (with_reducible repeat (first|apply Kd.V_alloc|apply Kd.V_drewN|apply Kd.V_drew));exact Kd.V_mono HO_0.out (fun _ hk=>⟨⟨hk.1,hk.2.2⟩,hk.2.1⟩)) hg hat)
           have n1_:=Zz.mk (Kd.V_afterv (ok:=(fun k_=>(P0_ k_∨w.heap.size≤k_)∧some k_ ≠ (.slice Ao24 y316.length co24:Value).ownBlock)) (by (with_reducible repeat (first|apply Kd.V_alloc|apply Kd.V_drewN|apply Kd.V_drew));exact Kd.V_mono HO312.out (fun _ hk=>⟨⟨hk.1,hk.2.2⟩,hk.2.1⟩)) hg hat)
           have n2_:=Zz.mk (Kd.V_afterv (ok:=(fun k_=>(P0_ k_∨w.heap.size≤k_)∧some k_ ≠ (.slice Ao24 y316.length co24:Value).ownBlock)) (by (with_reducible repeat (first|apply Kd.V_alloc|apply Kd.V_drewN|apply Kd.V_drew));exact Kd.V_mono HO326.out (fun _ hk=>⟨⟨hk.1,hk.2.2⟩,hk.2.1⟩)) hg hat)
           have n3_:=Zz.mk (Kd.R_after (ok:=(fun k_=>(w.heap.size≤k_))) HO318.out hg hat)
           have n4_:=Zz.mk (hb)
           have n5_:=Zz.mk (ho)
           revert n0_ n1_ n2_ n3_ n4_ n5_
           clear HO_0 HO312 HO326 HO318 HB HO315
           intro HO_0 HO312 HO326 HO318 HB HO321
           clear ho hb hg hat
           refine hK.out _ _ trivial (fun hHeld=>?_)
           clear hK K
           refine norm_ (a':=?_) ?_ ?_
           rotate_left
           ·show Act.put _ (some 40) _=_
            simp only [Act.put,List.setIfInBounds_toArray,List.set_cons_zero,List.set_cons_succ,i64_w,i32_w]
            rfl
           refine one_ (i:=11) (N:=some 44) #[true,true,true,true,true,true,true,true,true,true,true,true,false] rfl rfl (one_of HT_.out (by kernel_rfl)) (by decide) (fun K hK=>?_)
           refine Kd.R_append_rows_step (Kd.int .i64) (w0:=w) w.heap.size (by rfl) (.tmp 40) (.tmp 43) 38 3 (.int .i64 0) 8 rfl Tryz.underlying38 info3 rfl (by decide) (by omega) v320 y319 y322 _ _ _ (fun k_=>(w.heap.size≤k_)∧some k_ ≠ (.slice Ao24 y316.length co24:Value).ownBlock) (fun _=>False) rfl rfl ?aO ?aR (fun _ _ h=>h) (fun _ h=>h.elim) ?aF ?aB ?aS ?aL ?_
           (case aR=>repeat (first|exact (Kd.V_reads' HO326.out).2.2|(with_reducible refine Kd.C_alloc ?_ _)|(with_reducible refine Kd.C_drewN ?_ _)|(with_reducible refine Kd.C_drew ?_)))
           (case aB=>exact (by repeat (first|(with_reducible first|exact HB.out|apply qA|apply qN|apply q1_)|exact HB.out)))
           (case aF=>exact (fun k_ hk=>⟨(Nat.le_trans (qZ (by repeat (first|(with_reducible first|exact HB.out|apply qA|apply qN|apply q1_)|exact HB.out))) hk),Kd.fresh' (Kd.R_lt (by (with_reducible repeat first|apply Kd.R_alloc|apply Kd.R_drewN|apply Kd.R_drew);exact HO318.out)) k_ hk⟩))
           (case aO=>exact (by (with_reducible repeat first|apply Kd.R_alloc|apply Kd.R_drewN|apply Kd.R_drew);exact HO321.out))
           (case aS=>exact (qZ (by repeat (first|(with_reducible first|exact HB.out|apply qA|apply qN|apply q1_)|exact HB.out))))
           (case aL=>have:=LMc13.out;omega)
           intro v328 w25 ho hb hg hat
           rw [← Ny327.out] at ho
           have n0_:=Zz.mk (Kd.V_afterv (ok:=(fun k_=>(P0_ k_∨w.heap.size≤k_)∧some k_ ≠ (.slice Ao24 y316.length co24:Value).ownBlock)) (by (with_reducible repeat (first|apply Kd.V_alloc|apply Kd.V_drewN|apply Kd.V_drew));exact HO_0.out) hg hat)
           have n1_:=Zz.mk (Kd.V_afterv (ok:=(fun k_=>(P0_ k_∨w.heap.size≤k_)∧some k_ ≠ (.slice Ao24 y316.length co24:Value).ownBlock)) (by (with_reducible repeat (first|apply Kd.V_alloc|apply Kd.V_drewN|apply Kd.V_drew));exact HO312.out) hg hat)
           have n2_:=Zz.mk (Kd.V_afterv (ok:=(fun k_=>(P0_ k_∨w.heap.size≤k_)∧some k_ ≠ (.slice Ao24 y316.length co24:Value).ownBlock)) (by (with_reducible repeat (first|apply Kd.V_alloc|apply Kd.V_drewN|apply Kd.V_drew));exact HO326.out) hg hat)
           have n3_:=Zz.mk (Kd.R_after (ok:=(fun k_=>(w.heap.size≤k_))) HO318.out hg hat)
           have n4_:=Zz.mk (hb)
           have n5_:=Zz.mk (ho)
           revert n0_ n1_ n2_ n3_ n4_ n5_
           clear HO_0 HO312 HO326 HO318 HB HO321
           intro HO_0 HO312 HO326 HO318 HB HO329
           clear ho hb hg hat
           refine hK.out _ _ trivial (fun hHeld=>?_)
           clear hK K
           refine norm_ (a':=?_) ?_ ?_
           rotate_left
           ·show Act.put _ (some 44) _=_
            simp only [Act.put,List.setIfInBounds_toArray,List.set_cons_zero,List.set_cons_succ,i64_w,i32_w]
            rfl
           refine pure_ (i:=12) (N:=some 4) (v:=?_) (a':=?_) #[true,true,true,true,true,true,true,true,true,true,true,true,true] rfl rfl (any_of HT_.out (by kernel_rfl)) (fun _ _ _ h=>h) (Or.inl ⟨by rfl,?_⟩) ?_ ?_
           rotate_left
           ·intro w'
            go_simp
            with_reducible rfl
           rotate_left
           ·simp only [Act.put,List.setIfInBounds_toArray,List.set_cons_zero,List.set_cons_succ,i64_w,i32_w]
            rfl
           refine done_ (done_of HT_.out (by kernel_rfl)) ?_
           try go_wp2
           go_ret
           exact ⟨_,by first|rfl|(simp [errW_none,errW_some] <;> rfl)|(simp [*,errW_none,errW_some] <;> rfl),Kd.V_mono (Kd.R_V (by (with_reducible repeat first|apply Kd.R_alloc|apply Kd.R_drewN|apply Kd.R_drew);exact Kd.R_mono HO329.out (fun _ hk=>hk.1))) (fun k_ hk=>by first|exact ⟨(.inr (hk.1)),hk.2⟩|exact (.inr (hk))),by repeat (first|(with_reducible first|exact HB.out|apply qA|apply qN|apply q1_)|exact HB.out)⟩
          ·rw [if_neg c13] at H
           exact absurd H (by simp)
         ·rw [if_neg c10] at H
          exact absurd H (by simp)
        ·rw [if_neg c9] at H
         exact absurd H (by simp)
       ·rw [if_neg c8] at H
        exact absurd H (by simp)
    ·rw [if_neg c4] at H
     exact absurd H (by simp)
   ·rw [if_neg c3] at H
    have c3b0:decide (x5_1<(l0.length:Int))=false:=decide_eq_false c3
    clear c3
    obtain ⟨y330,hy330⟩:∃ y_:List Int,y_=(([]:List Int)):=⟨_,rfl⟩
    replace H:(if 0≤x5_1 then (if x5_1≤(l0.length:Int) then ((some (l0.take (x5_1:Int).toNat:List Int)).bind fun y333=>(if y330.length+y333.length<17592186044416 then ((some (y330 ++ y333:List Int)).bind fun y338=>((some (([a1]:List Int):List Int)).bind fun y341=>(if y338.length+y341.length<17592186044416 then ((some (y338 ++ y341:List Int)).bind fun y344=>((some (l0.drop (x5_1:Int).toNat:List Int)).bind fun y347=>(if y344.length+y347.length<17592186044416 then (some (y344 ++ y347)) else (none)))) else (none)))) else (none))) else (none)) else (none))=some r:=by first|(rw [hy330];with_reducible exact H)|(have H2_:=(Option.bind_some _ _).symm.trans H;rw [hy330];with_reducible exact H2_)|(have H2_:=(Option.bind_some _ _).symm.trans H;with_reducible exact H2_)|with_reducible exact H|(rw [hy330];exact H)|exact H
    have Ny330:=Zz.mk hy330
    clear hy330
    by_cases c26:0≤x5_1
    ·rw [if_pos c26] at H
     have c26b0:=eq_true c26
     have c26b1:decide (0≤x5_1)=true:=decide_eq_true c26
     clear c26
     by_cases c27:x5_1≤(l0.length:Int)
     ·rw [if_pos c27] at H
      have c27b0:=eq_true c27
      have c27b1:decide (x5_1≤(l0.length:Int))=true:=decide_eq_true c27
      clear c27
      obtain ⟨y333,hy333⟩:∃ y_:List Int,y_=(l0.take (x5_1:Int).toNat):=⟨_,rfl⟩
      replace H:(if y330.length+y333.length<17592186044416 then ((some (y330 ++ y333:List Int)).bind fun y338=>((some (([a1]:List Int):List Int)).bind fun y341=>(if y338.length+y341.length<17592186044416 then ((some (y338 ++ y341:List Int)).bind fun y344=>((some (l0.drop (x5_1:Int).toNat:List Int)).bind fun y347=>(if y344.length+y347.length<17592186044416 then (some (y344 ++ y347)) else (none)))) else (none)))) else (none))=some r:=by first|(rw [hy333];with_reducible exact H)|(have H2_:=(Option.bind_some _ _).symm.trans H;rw [hy333];with_reducible exact H2_)|(have H2_:=(Option.bind_some _ _).symm.trans H;with_reducible exact H2_)|with_reducible exact H|(rw [hy333];exact H)|exact H
      have Ny333:=Zz.mk hy333
      clear hy333
      by_cases c28:y330.length+y333.length<17592186044416
      ·rw [if_pos c28] at H
       have LMc28:=Zz.mk c28
       clear c28
       obtain ⟨y338,hy338⟩:∃ y_:List Int,y_=(y330 ++ y333):=⟨_,rfl⟩
       replace H:((some (([a1]:List Int):List Int)).bind fun y341=>(if y338.length+y341.length<17592186044416 then ((some (y338 ++ y341:List Int)).bind fun y344=>((some (l0.drop (x5_1:Int).toNat:List Int)).bind fun y347=>(if y344.length+y347.length<17592186044416 then (some (y344 ++ y347)) else (none)))) else (none)))=some r:=by first|(rw [hy338];with_reducible exact H)|(have H2_:=(Option.bind_some _ _).symm.trans H;rw [hy338];with_reducible exact H2_)|(have H2_:=(Option.bind_some _ _).symm.trans H;with_reducible exact H2_)|with_reducible exact H|(rw [hy338];exact H)|exact H
       have Ny338:=Zz.mk hy338
       clear hy338
       obtain ⟨y341,hy341⟩:∃ y_:List Int,y_=(([a1]:List Int)):=⟨_,rfl⟩
       replace H:(if y338.length+y341.length<17592186044416 then ((some (y338 ++ y341:List Int)).bind fun y344=>((some (l0.drop (x5_1:Int).toNat:List Int)).bind fun y347=>(if y344.length+y347.length<17592186044416 then (some (y344 ++ y347)) else (none)))) else (none))=some r:=by first|(rw [hy341];with_reducible exact H)|(have H2_:=(Option.bind_some _ _).symm.trans H;rw [hy341];with_reducible exact H2_)|(have H2_:=(Option.bind_some _ _).symm.trans H;with_reducible exact H2_)|with_reducible exact H|(rw [hy341];exact H)|exact H
       have Ny341:=Zz.mk hy341
       clear hy341
       by_cases c29:y338.length+y341.length<17592186044416
       ·rw [if_pos c29] at H
        have LMc29:=Zz.mk c29
        clear c29
        obtain ⟨y344,hy344⟩:∃ y_:List Int,y_=(y338 ++ y341):=⟨_,rfl⟩
        replace H:((some (l0.drop (x5_1:Int).toNat:List Int)).bind fun y347=>(if y344.length+y347.length<17592186044416 then (some (y344 ++ y347)) else (none)))=some r:=by first|(rw [hy344];with_reducible exact H)|(have H2_:=(Option.bind_some _ _).symm.trans H;rw [hy344];with_reducible exact H2_)|(have H2_:=(Option.bind_some _ _).symm.trans H;with_reducible exact H2_)|with_reducible exact H|(rw [hy344];exact H)|exact H
        have Ny344:=Zz.mk hy344
        clear hy344
        have c30b0:=eq_true (of_decide_eq_true (by first|(with_reducible assumption)|assumption):0≤x5_1)
        have c31b0:=eq_true (of_decide_eq_true (by first|(with_reducible assumption)|assumption):x5_1≤(l0.length:Int))
        obtain ⟨y347,hy347⟩:∃ y_:List Int,y_=(l0.drop (x5_1:Int).toNat):=⟨_,rfl⟩
        replace H:(if y344.length+y347.length<17592186044416 then (some (y344 ++ y347)) else (none))=some r:=by first|(rw [hy347];with_reducible exact H)|(have H2_:=(Option.bind_some _ _).symm.trans H;rw [hy347];with_reducible exact H2_)|(have H2_:=(Option.bind_some _ _).symm.trans H;with_reducible exact H2_)|with_reducible exact H|(rw [hy347];exact H)|exact H
        have Ny347:=Zz.mk hy347
        clear hy347
        by_cases c32:y344.length+y347.length<17592186044416
        ·rw [if_pos c32] at H
         have LMc32:=Zz.mk c32
         clear c32
         obtain ⟨y352,hy352⟩:∃ y_:List Int,y_=(y344 ++ y347):=⟨_,rfl⟩
         replace H:(some y352)=some r:=by first|(rw [hy352];with_reducible exact H)|(have H2_:=(Option.bind_some _ _).symm.trans H;rw [hy352];with_reducible exact H2_)|(have H2_:=(Option.bind_some _ _).symm.trans H;with_reducible exact H2_)|with_reducible exact H|(rw [hy352];exact H)|exact H
         have Ny352:=Zz.mk hy352
         clear hy352
         obtain rfl:=Option.some.inj H
         try go_wp2
         have n0_:=Zz.mk (Kd.V_drew HO_0.out)
         have n1_:=Zz.mk (q1_ HB.out)
         revert n0_ n1_
         clear HO_0 HB
         intro HO_0 HB
         have q34:(x5_1:Int)≤((l0.length:Int):Int):=of_decide_eq_true (by first|(with_reducible assumption)|assumption)
         obtain ⟨i034,hi034,_,hsz34,_⟩:=info_parts info3
         have hroom34:l0.length≤c0:=(Kd.V_reads' HO_0.out).2.1
         have hC34:Kd.F (Kd.int .i64) _ _ A0 l0.length l0:=(Kd.V_at (base:=w.heap.size) HO_0.out).2.2
         have hcut34:=cut_to (P:=Tryz.prog) 38 3 .i64 Tryz.underlying38 hi034 A0 l0.length c0 x5_1 (of_decide_eq_true (by first|(with_reducible assumption)|assumption)) q34 hroom34
         have hr34:=Kd.F_take (m:=(x5_1:Int).toNat) hC34 (by omega)
         have hy34:y333.length=(x5_1:Int).toNat:=(by rw [Ny333.out,List.length_take];omega)
         rw [← Ny333.out] at hr34
         rw [← hy34] at hcut34
         have HO337:=Zz.mk (show Kd.V (Kd.int .i64) 3 _ w.heap.size _ (.slice A0 y333.length c0) y333 from Kd.V_mk (by omega) hr34)
         have HC337:=Zz.mk (show y333.length≤c0 from by omega)
         clear hr34 hC34 hroom34 hi034 hsz34
         have KY34:=Zz.mk hy34
         clear hy34
         replace q34:=eq_true q34
         have q35:(x5_1:Int)≤((l0.length:Int):Int):=of_decide_eq_true (by first|(with_reducible assumption)|assumption)
         obtain ⟨i035,hi035,_,hsz35,_⟩:=info_parts info3
         have hroom35:l0.length≤c0:=(Kd.V_reads' HO_0.out).2.1
         have hC35:Kd.F (Kd.int .i64) _ _ A0 l0.length l0:=(Kd.V_at (base:=w.heap.size) HO_0.out).2.2
         have q035:(0:Int)≤(x5_1:Int):=of_decide_eq_true (by first|(with_reducible assumption)|assumption)
         have hcut35:=cut_from (P:=Tryz.prog) 38 3 .i64 Tryz.underlying38 hi035 1 hsz35 A0 l0.length c0 x5_1 q035 q35
         have hr35:=Kd.F_cut (m:=(x5_1:Int).toNat) (c:=c0) hC35 (by omega) hroom35
         obtain ⟨A35,hA35⟩:∃ A1,A1=(if c0=(x5_1:Int).toNat then A0 else (A0:Option Addr).map (·.add ((x5_1:Int).toNat * 1))):=⟨_,rfl⟩
         obtain ⟨c35,hc35⟩:∃ c1,c1=c0 - (x5_1:Int).toNat:=⟨_,rfl⟩
         have hy35:y347.length=l0.length - (x5_1:Int).toNat:=(by rw [Ny347.out,List.length_drop] <;> omega)
         rw [show (l0).drop (x5_1:Int).toNat=y347 from Ny347.out.symm] at hr35
         replace hr35:Kd.F (Kd.int .i64) _ _ A35 y347.length y347:=(by rw [hA35];exact hr35)
         rw [← hy35,← hA35,← hc35] at hcut35
         have HO351:=Zz.mk (show Kd.V (Kd.int .i64) 3 _ w.heap.size _ (.slice A35 y347.length c35) y347 from Kd.V_mk (by rw [hy35,hc35];exact Nat.sub_le_sub_right hroom35 _) hr35)
         have HC351:=Zz.mk (show y347.length≤c35 from by rw [hy35,hc35];exact Nat.sub_le_sub_right hroom35 _)
         clear hr35 hC35 hroom35 hi035 hsz35 hc35
         have KY35:=Zz.mk hy35
         have KA35:=Zz.mk hA35
         clear hy35 hA35
         replace q35:=eq_true q35
         refine start_ (n:=13) (S:=fun w'=>True) (ds:=[]) #[false,false,false,false,false,false,false,false,false,false,false,false,false] (by kernel_rfl) rfl rfl trivial (fun hHeld=>?_);refine with_tabW spec_l1Put.tab6 spec_l1Put.bits6 (fun HT_ HW_=>?_)
         generalize wr.drew=w33 at HO_0 HB HO337 HO351 hHeld ⊢
         refine pure_ (i:=1) (N:=some 34) (v:=?_) (a':=?_) #[false,true,false,false,false,false,false,false,false,false,false,false,false] rfl rfl (any_of HT_.out (by kernel_rfl)) (fun _ _ _ h=>h) (Or.inl ⟨by rfl,?_⟩) ?_ ?_
         rotate_left
         ·intro w'
          go_simp
          with_reducible rfl
         rotate_left
         ·simp only [Act.put,List.setIfInBounds_toArray,List.set_cons_zero,List.set_cons_succ,i64_w,i32_w]
          rfl
         refine pure_ (i:=2) (N:=some 35) (v:=?_) (a':=?_) #[false,true,true,false,false,false,false,false,false,false,false,false,false] rfl rfl (any_of HT_.out (by kernel_rfl)) (fun _ _ _ h=>h) (Or.inl ⟨by rfl,?_⟩) ?_ ?_
         rotate_left
         ·intro w'
          go_simp
          with_reducible rfl
         rotate_left
         ·simp only [Act.put,List.setIfInBounds_toArray,List.set_cons_zero,List.set_cons_succ,i64_w,i32_w]
          rfl
         refine pure_ (i:=3) (N:=some 36) (v:=?_) (a':=?_) #[false,true,true,true,false,false,false,false,false,false,false,false,false] rfl rfl (any_of HT_.out (by kernel_rfl)) (fun _ _ _ h=>h) (Or.inl ⟨by rfl,?_⟩) ?_ ?_
         rotate_left
         ·intro w'
          go_simp
          with_reducible rfl
         rotate_left
         ·simp only [Act.put,List.setIfInBounds_toArray,List.set_cons_zero,List.set_cons_succ,i64_w,i32_w]
          rfl
         refine pure_ (i:=5) (N:=some 38) (v:=?_) (a':=?_) #[false,true,true,true,false,true,false,false,false,false,false,false,false] rfl rfl (any_of HT_.out (by kernel_rfl)) (fun _ _ _ h=>h) (Or.inl ⟨by rfl,?_⟩) ?_ ?_
         rotate_left
         ·intro w'
          go_simp
          with_reducible rfl
         rotate_left
         ·simp only [Act.put,List.setIfInBounds_toArray,List.set_cons_zero,List.set_cons_succ,i64_w,i32_w]
          rfl
         refine pure_ (i:=8) (N:=some 41) (v:=?_) (a':=?_) #[false,true,true,true,false,true,false,false,true,false,false,false,false] rfl rfl (any_of HT_.out (by kernel_rfl)) (fun _ _ _ h=>h) (Or.inl ⟨by rfl,?_⟩) ?_ ?_
         rotate_left
         ·intro w'
          go_simp
          with_reducible rfl
         rotate_left
         ·simp only [Act.put,List.setIfInBounds_toArray,List.set_cons_zero,List.set_cons_succ,i64_w,i32_w]
          rfl
         refine pure_ (i:=9) (N:=some 42) (v:=?_) (a':=?_) #[false,true,true,true,false,true,false,false,true,true,false,false,false] rfl rfl (any_of HT_.out (by kernel_rfl)) (fun _ _ _ h=>h) (Or.inl ⟨by rfl,?_⟩) ?_ ?_
         rotate_left
         ·intro w'
          go_simp
          with_reducible rfl
         rotate_left
         ·simp only [Act.put,List.setIfInBounds_toArray,List.set_cons_zero,List.set_cons_succ,i64_w,i32_w]
          rfl
         refine pure_ (i:=10) (N:=some 43) (v:=?_) (a':=?_) #[false,true,true,true,false,true,false,false,true,true,true,false,false] rfl rfl (any_of HT_.out (by kernel_rfl)) (fun _ _ _ h=>h) (Or.inl ⟨by rfl,?_⟩) ?_ ?_
         rotate_left
         ·intro w'
          go_simp
          with_reducible rfl
         rotate_left
         ·simp only [Act.put,List.setIfInBounds_toArray,List.set_cons_zero,List.set_cons_succ,i64_w,i32_w]
          rfl
         refine join_ (σ:=Value × Value × Value) 3 #[true,true,true,true,true,true,true,false,true,true,true,false,false] (fun s_=>[(33,s_.1),(37,s_.2.1),(39,s_.2.2)]) (fun s_ w'=>(Kd.V (Kd.int .i64) 3 w' w.heap.size (fun k_=>(P0_ k_∨w.heap.size≤k_)∧some k_ ≠ (s_.2.1:Value).ownBlock∧some k_ ≠ (s_.2.2:Value).ownBlock) (.slice A0 y333.length c0) y333)∧(Kd.R (Kd.int .i64) 3 w' w.heap.size (fun k_=>(w.heap.size≤k_)∧some k_ ≠ (s_.2.2:Value).ownBlock) s_.2.1 y338)∧(Kd.R (Kd.int .i64) 3 w' w.heap.size (fun k_=>(w.heap.size≤k_)∧some k_ ≠ (s_.2.1:Value).ownBlock) s_.2.2 y341)∧(Kd.V (Kd.int .i64) 3 w' w.heap.size (fun k_=>(P0_ k_∨w.heap.size≤k_)∧some k_ ≠ (s_.2.1:Value).ownBlock∧some k_ ≠ (s_.2.2:Value).ownBlock) (.slice A35 y347.length c35) y347)∧(Kd.V (Kd.int .i64) 3 w' w.heap.size (fun k_=>(P0_ k_∨w.heap.size≤k_)∧some k_ ≠ (s_.2.1:Value).ownBlock∧some k_ ≠ (s_.2.2:Value).ownBlock) (.slice A0 l0.length c0) l0)∧(Below w.heap.size w w')) ?_ ?_
         rotate_left
         ·intro hCont
          refine two_ (i:=0) (j:=6) (Ni:=some 33) (Nj:=some 39) #[true,true,true,true,false,true,false,false,true,true,true,false,false] #[false,true,true,true,false,true,true,false,true,true,true,false,false] rfl rfl rfl rfl (two_of HT_.out (by kernel_rfl)) (by decide) (by decide) (fun K hK=>?_) (fun K hK=>?_)
          ·skip
           refine Kd.R_lit_step (Kd.int .i64) _ 3 ?hg (N:=33) ?hd (xs:=([]:List Int)) (inner:=[]) (ok:=fun _=>True) (okp:=fun _=>True) ?hr ?hp (fun _ hk=>hk) trivial (Below.refl _ _) (Nat.le_refl _) (by simp) ?_;(case hd=>rfl);(case hg=>rfl);(case hr=>first|(go_simp;done)|(go_simp;rfl));(case hp=>exact (Reps.none _ _))
           intro v331 w36 ho37 hb hg_ hnew_
           clear hg_ hnew_
           (first|rw [← Ny330.out] at ho37|(simp only [Int.reduceToNat] at ho37;rw [← Ny330.out] at ho37))
           have n0_:=Zz.mk (Kd.V_elder' (by (with_reducible repeat (first|apply Kd.V_alloc|apply Kd.V_drewN|apply Kd.V_drew));exact HO_0.out) (Kd.R_base ho37) hb)
           have n1_:=Zz.mk (Kd.V_elder' (by (with_reducible repeat (first|apply Kd.V_alloc|apply Kd.V_drewN|apply Kd.V_drew));exact HO337.out) (Kd.R_base ho37) hb)
           have n2_:=Zz.mk (Kd.V_elder' (by (with_reducible repeat (first|apply Kd.V_alloc|apply Kd.V_drewN|apply Kd.V_drew));exact HO351.out) (Kd.R_base ho37) hb)
           have n3_:=Zz.mk (Kd.R_lower (Kd.R_newM (M:=fun k_=>(w.heap.size≤k_)) ho37 (qZ HB.out) (fun k_ h_=>h_)) (qZ HB.out))
           have n4_:=Zz.mk (qP HB.out hb)
           revert n0_ n1_ n2_ n3_ n4_
           clear HO_0 HO337 HO351 HB
           intro HO_0 HO337 HO351 HO332 HB
           clear hb ho37
           refine hK.out _ _ trivial (fun hHeld=>?_)
           clear hK K
           refine norm_ (a':=?_) ?_ ?_
           rotate_left
           ·show Act.put _ (some 33) _=_
            simp only [Act.put,List.setIfInBounds_toArray,List.set_cons_zero,List.set_cons_succ,i64_w,i32_w]
            rfl
           refine two_ (i:=4) (j:=6) (Ni:=some 37) (Nj:=some 39) #[true,true,true,true,true,true,false,false,true,true,true,false,false] #[true,true,true,true,false,true,true,false,true,true,true,false,false] rfl rfl rfl rfl (two_of HT_.out (by kernel_rfl)) (by decide) (by decide) (fun K hK=>?_) (fun K hK=>?_)
           ·skip
            refine Kd.R_append_rows_step (Kd.int .i64) (w0:=w) w.heap.size (by rfl) (.tmp 33) (.tmp 36) 38 3 (.int .i64 0) 8 rfl Tryz.underlying38 info3 rfl (by decide) (by omega) v331 y330 y333 _ _ _ (fun k_=>(w.heap.size≤k_)) (fun _=>False) rfl rfl ?aO ?aR (fun _ _ h=>h) (fun _ h=>h.elim) ?aF ?aB ?aS ?aL ?_
            (case aR=>repeat (first|exact (Kd.V_reads' HO337.out).2.2|(with_reducible refine Kd.C_alloc ?_ _)|(with_reducible refine Kd.C_drewN ?_ _)|(with_reducible refine Kd.C_drew ?_)))
            (case aB=>exact (by repeat (first|(with_reducible first|exact HB.out|apply qA|apply qN|apply q1_)|exact HB.out)))
            (case aF=>exact (fun k_ hk=>(Nat.le_trans (qZ (by repeat (first|(with_reducible first|exact HB.out|apply qA|apply qN|apply q1_)|exact HB.out))) hk)))
            (case aO=>exact (by (with_reducible repeat first|apply Kd.R_alloc|apply Kd.R_drewN|apply Kd.R_drew);exact Kd.R_mono HO332.out (fun _ hk=>hk.1)))
            (case aS=>exact (qZ (by repeat (first|(with_reducible first|exact HB.out|apply qA|apply qN|apply q1_)|exact HB.out))))
            (case aL=>have:=LMc28.out;omega)
            intro v339 w38 ho hb hg hat
            rw [← Ny338.out] at ho
            have n0_:=Zz.mk (Kd.V_afterv (ok:=(fun k_=>(P0_ k_∨w.heap.size≤k_))) (by (with_reducible repeat (first|apply Kd.V_alloc|apply Kd.V_drewN|apply Kd.V_drew));exact HO_0.out) hg hat)
            have n1_:=Zz.mk (Kd.V_afterv (ok:=(fun k_=>(P0_ k_∨w.heap.size≤k_))) (by (with_reducible repeat (first|apply Kd.V_alloc|apply Kd.V_drewN|apply Kd.V_drew));exact HO337.out) hg hat)
            have n2_:=Zz.mk (Kd.V_afterv (ok:=(fun k_=>(P0_ k_∨w.heap.size≤k_))) (by (with_reducible repeat (first|apply Kd.V_alloc|apply Kd.V_drewN|apply Kd.V_drew));exact HO351.out) hg hat)
            have n3_:=Zz.mk (hb)
            have n4_:=Zz.mk (ho)
            revert n0_ n1_ n2_ n3_ n4_
            clear HO_0 HO337 HO351 HB HO332
            intro HO_0 HO337 HO351 HB HO340
            clear ho hb hg hat
            refine hK.out _ _ trivial (fun hHeld=>?_)
            clear hK K
            refine norm_ (a':=?_) ?_ ?_
            rotate_left
            ·show Act.put _ (some 37) _=_
             simp only [Act.put,List.setIfInBounds_toArray,List.set_cons_zero,List.set_cons_succ,i64_w,i32_w]
             rfl
            refine one_ (i:=6) (N:=some 39) #[true,true,true,true,true,true,true,false,true,true,true,false,false] rfl rfl (one_of HT_.out (by kernel_rfl)) (by decide) (fun K hK=>?_)
            refine Kd.R_lit_step (Kd.int .i64) _ 3 ?hg (N:=39) ?hd (xs:=([a1]:List Int)) (inner:=[.int .i64 a1]) (ok:=fun _=>True) (okp:=fun _=>True) ?hr ?hp (fun _ hk=>hk) trivial (Below.refl _ _) (Nat.le_refl _) (by simp) ?_;(case hd=>rfl);(case hg=>rfl);(case hr=>first|(go_simp;done)|(go_simp;rfl));(case hp=>exact (Reps.one (show Kd.M (Kd.int .i64) _ _ _ a1 [.int .i64 a1] from rfl) (Reps.none _ _)))
            intro v342 w39 ho40 hb hg_ hnew_
            clear hg_ hnew_
            (first|rw [← Ny341.out] at ho40|(simp only [Int.reduceToNat] at ho40;rw [← Ny341.out] at ho40))
            have n0_:=Zz.mk (Kd.V_elder' (by (with_reducible repeat (first|apply Kd.V_alloc|apply Kd.V_drewN|apply Kd.V_drew));exact HO_0.out) (Kd.R_base ho40) hb)
            have n1_:=Zz.mk (Kd.V_elder' (by (with_reducible repeat (first|apply Kd.V_alloc|apply Kd.V_drewN|apply Kd.V_drew));exact HO337.out) (Kd.R_base ho40) hb)
            have n2_:=Zz.mk (Kd.V_elder' (by (with_reducible repeat (first|apply Kd.V_alloc|apply Kd.V_drewN|apply Kd.V_drew));exact HO351.out) (Kd.R_base ho40) hb)
            have n3_:=Zz.mk (Kd.R_elder' HO340.out (Kd.R_base ho40) hb)
            have n4_:=Zz.mk (Kd.R_lower (Kd.R_new' (Kd.R_newM (M:=fun k_=>(w.heap.size≤k_)) ho40 (qZ HB.out) (fun k_ h_=>h_)) (Kd.R_lt HO340.out)) (qZ HB.out))
            have n5_:=Zz.mk (qP HB.out hb)
            revert n0_ n1_ n2_ n3_ n4_ n5_
            clear HO_0 HO337 HO351 HO340 HB
            intro HO_0 HO337 HO351 HO340 HO343 HB
            clear hb ho40
            refine hK.out _ _ trivial (fun hHeld=>?_)
            clear hK K
            refine norm_ (a':=?_) ?_ ?_
            rotate_left
            ·show Act.put _ (some 39) _=_
             simp only [Act.put,List.setIfInBounds_toArray,List.set_cons_zero,List.set_cons_succ,i64_w,i32_w]
             rfl
            exact norm_ (by simp only [putAll,Act.put,List.setIfInBounds_toArray,List.set_cons_zero,List.set_cons_succ]) (hCont (v331,v339,v342) _ ⟨(by (with_reducible repeat (first|apply Kd.V_alloc|apply Kd.V_drewN|apply Kd.V_drew));exact Kd.V_mono HO337.out (fun _ hk=>⟨hk.1.1,⟨hk.1.2,hk.2⟩⟩)),HO340.out,(Kd.R_mono HO343.out (fun _ hk=>⟨hk.1.1,hk.2⟩)),(by (with_reducible repeat (first|apply Kd.V_alloc|apply Kd.V_drewN|apply Kd.V_drew));exact Kd.V_mono HO351.out (fun _ hk=>⟨hk.1.1,⟨hk.1.2,hk.2⟩⟩)),(by (with_reducible repeat (first|apply Kd.V_alloc|apply Kd.V_drewN|apply Kd.V_drew));exact Kd.V_mono HO_0.out (fun _ hk=>⟨hk.1.1,⟨hk.1.2,hk.2⟩⟩)),HB.out⟩)
           ·skip
            refine Kd.R_lit_step (Kd.int .i64) _ 3 ?hg (N:=39) ?hd (xs:=([a1]:List Int)) (inner:=[.int .i64 a1]) (ok:=fun _=>True) (okp:=fun _=>True) ?hr ?hp (fun _ hk=>hk) trivial (Below.refl _ _) (Nat.le_refl _) (by simp) ?_;(case hd=>rfl);(case hg=>rfl);(case hr=>first|(go_simp;done)|(go_simp;rfl));(case hp=>exact (Reps.one (show Kd.M (Kd.int .i64) _ _ _ a1 [.int .i64 a1] from rfl) (Reps.none _ _)))
            intro v342 w38 ho39 hb hg_ hnew_
            clear hg_ hnew_
            (first|rw [← Ny341.out] at ho39|(simp only [Int.reduceToNat] at ho39;rw [← Ny341.out] at ho39))
            have n0_:=Zz.mk (Kd.V_elder' (by (with_reducible repeat (first|apply Kd.V_alloc|apply Kd.V_drewN|apply Kd.V_drew));exact HO_0.out) (Kd.R_base ho39) hb)
            have n1_:=Zz.mk (Kd.V_elder' (by (with_reducible repeat (first|apply Kd.V_alloc|apply Kd.V_drewN|apply Kd.V_drew));exact HO337.out) (Kd.R_base ho39) hb)
            have n2_:=Zz.mk (Kd.V_elder' (by (with_reducible repeat (first|apply Kd.V_alloc|apply Kd.V_drewN|apply Kd.V_drew));exact HO351.out) (Kd.R_base ho39) hb)
            have n3_:=Zz.mk (Kd.R_elder' HO332.out (Kd.R_base ho39) hb)
            have n4_:=Zz.mk (Kd.R_lower (Kd.R_new' (Kd.R_newM (M:=fun k_=>(w.heap.size≤k_)) ho39 (qZ HB.out) (fun k_ h_=>h_)) (Kd.R_lt HO332.out)) (qZ HB.out))
            have n5_:=Zz.mk (qP HB.out hb)
            revert n0_ n1_ n2_ n3_ n4_ n5_
            clear HO_0 HO337 HO351 HO332 HB
            intro HO_0 HO337 HO351 HO332 HO343 HB
            clear hb ho39
            refine hK.out _ _ trivial (fun hHeld=>?_)
            clear hK K
            refine norm_ (a':=?_) ?_ ?_
            rotate_left
            ·show Act.put _ (some 39) _=_
             simp only [Act.put,List.setIfInBounds_toArray,List.set_cons_zero,List.set_cons_succ,i64_w,i32_w]
             rfl
            refine one_ (i:=4) (N:=some 37) #[true,true,true,true,true,true,true,false,true,true,true,false,false] rfl rfl (one_of HT_.out (by kernel_rfl)) (by decide) (fun K hK=>?_)
            refine Kd.R_append_rows_step (Kd.int .i64) (w0:=w) w.heap.size (by rfl) (.tmp 33) (.tmp 36) 38 3 (.int .i64 0) 8 rfl Tryz.underlying38 info3 rfl (by decide) (by omega) v331 y330 y333 _ _ _ (fun k_=>(w.heap.size≤k_)∧some k_ ≠ (v342:Value).ownBlock) (fun _=>False) rfl rfl ?aO ?aR (fun _ _ h=>h) (fun _ h=>h.elim) ?aF ?aB ?aS ?aL ?_
            (case aR=>repeat (first|exact (Kd.V_reads' HO337.out).2.2|(with_reducible refine Kd.C_alloc ?_ _)|(with_reducible refine Kd.C_drewN ?_ _)|(with_reducible refine Kd.C_drew ?_)))
            (case aB=>exact (by repeat (first|(with_reducible first|exact HB.out|apply qA|apply qN|apply q1_)|exact HB.out)))
            (case aF=>exact (fun k_ hk=>⟨(Nat.le_trans (qZ (by repeat (first|(with_reducible first|exact HB.out|apply qA|apply qN|apply q1_)|exact HB.out))) hk),Kd.fresh' (Kd.R_lt (by (with_reducible repeat first|apply Kd.R_alloc|apply Kd.R_drewN|apply Kd.R_drew);exact HO343.out)) k_ hk⟩))
            (case aO=>exact (by (with_reducible repeat first|apply Kd.R_alloc|apply Kd.R_drewN|apply Kd.R_drew);exact Kd.R_mono HO332.out (fun _ hk=>⟨hk.1.1,hk.2⟩)))
            (case aS=>exact (qZ (by repeat (first|(with_reducible first|exact HB.out|apply qA|apply qN|apply q1_)|exact HB.out))))
            (case aL=>have:=LMc28.out;omega)
            intro v339 w40 ho hb hg hat
            rw [← Ny338.out] at ho
            have n0_:=Zz.mk (Kd.V_afterv (ok:=(fun k_=>(P0_ k_∨w.heap.size≤k_)∧some k_ ≠ (v342:Value).ownBlock)) (by (with_reducible repeat (first|apply Kd.V_alloc|apply Kd.V_drewN|apply Kd.V_drew));exact Kd.V_mono HO_0.out (fun _ hk=>⟨⟨hk.1.1,hk.2⟩,hk.1.2⟩)) hg hat)
            have n1_:=Zz.mk (Kd.V_afterv (ok:=(fun k_=>(P0_ k_∨w.heap.size≤k_)∧some k_ ≠ (v342:Value).ownBlock)) (by (with_reducible repeat (first|apply Kd.V_alloc|apply Kd.V_drewN|apply Kd.V_drew));exact Kd.V_mono HO337.out (fun _ hk=>⟨⟨hk.1.1,hk.2⟩,hk.1.2⟩)) hg hat)
            have n2_:=Zz.mk (Kd.V_afterv (ok:=(fun k_=>(P0_ k_∨w.heap.size≤k_)∧some k_ ≠ (v342:Value).ownBlock)) (by (with_reducible repeat (first|apply Kd.V_alloc|apply Kd.V_drewN|apply Kd.V_drew));exact Kd.V_mono HO351.out (fun _ hk=>⟨⟨hk.1.1,hk.2⟩,hk.1.2⟩)) hg hat)
            have n3_:=Zz.mk (Kd.R_after (ok:=(fun k_=>(w.heap.size≤k_))) (Kd.R_mono HO343.out (fun _ hk=>⟨hk.1.1,hk.2⟩)) hg hat)
            have n4_:=Zz.mk (hb)
            have n5_:=Zz.mk (ho)
            revert n0_ n1_ n2_ n3_ n4_ n5_
            clear HO_0 HO337 HO351 HO343 HB HO332
            intro HO_0 HO337 HO351 HO343 HB HO340
            clear ho hb hg hat
            refine hK.out _ _ trivial (fun hHeld=>?_)
            clear hK K
            refine norm_ (a':=?_) ?_ ?_
            rotate_left
            ·show Act.put _ (some 37) _=_
             simp only [Act.put,List.setIfInBounds_toArray,List.set_cons_zero,List.set_cons_succ,i64_w,i32_w]
             rfl
            exact norm_ (by simp only [putAll,Act.put,List.setIfInBounds_toArray,List.set_cons_zero,List.set_cons_succ]) (hCont (v331,v339,v342) _ ⟨(by (with_reducible repeat (first|apply Kd.V_alloc|apply Kd.V_drewN|apply Kd.V_drew));exact Kd.V_mono HO337.out (fun _ hk=>⟨hk.1.1,⟨hk.2,hk.1.2⟩⟩)),HO340.out,HO343.out,(by (with_reducible repeat (first|apply Kd.V_alloc|apply Kd.V_drewN|apply Kd.V_drew));exact Kd.V_mono HO351.out (fun _ hk=>⟨hk.1.1,⟨hk.2,hk.1.2⟩⟩)),(by (with_reducible repeat (first|apply Kd.V_alloc|apply Kd.V_drewN|apply Kd.V_drew));exact Kd.V_mono HO_0.out (fun _ hk=>⟨hk.1.1,⟨hk.2,hk.1.2⟩⟩)),HB.out⟩)
          ·skip
           refine Kd.R_lit_step (Kd.int .i64) _ 3 ?hg (N:=39) ?hd (xs:=([a1]:List Int)) (inner:=[.int .i64 a1]) (ok:=fun _=>True) (okp:=fun _=>True) ?hr ?hp (fun _ hk=>hk) trivial (Below.refl _ _) (Nat.le_refl _) (by simp) ?_;(case hd=>rfl);(case hg=>rfl);(case hr=>first|(go_simp;done)|(go_simp;rfl));(case hp=>exact (Reps.one (show Kd.M (Kd.int .i64) _ _ _ a1 [.int .i64 a1] from rfl) (Reps.none _ _)))
           intro v342 w36 ho37 hb hg_ hnew_
           clear hg_ hnew_
           (first|rw [← Ny341.out] at ho37|(simp only [Int.reduceToNat] at ho37;rw [← Ny341.out] at ho37))
           have n0_:=Zz.mk (Kd.V_elder' (by (with_reducible repeat (first|apply Kd.V_alloc|apply Kd.V_drewN|apply Kd.V_drew));exact HO_0.out) (Kd.R_base ho37) hb)
           have n1_:=Zz.mk (Kd.V_elder' (by (with_reducible repeat (first|apply Kd.V_alloc|apply Kd.V_drewN|apply Kd.V_drew));exact HO337.out) (Kd.R_base ho37) hb)
           have n2_:=Zz.mk (Kd.V_elder' (by (with_reducible repeat (first|apply Kd.V_alloc|apply Kd.V_drewN|apply Kd.V_drew));exact HO351.out) (Kd.R_base ho37) hb)
           have n3_:=Zz.mk (Kd.R_lower (Kd.R_newM (M:=fun k_=>(w.heap.size≤k_)) ho37 (qZ HB.out) (fun k_ h_=>h_)) (qZ HB.out))
           have n4_:=Zz.mk (qP HB.out hb)
           revert n0_ n1_ n2_ n3_ n4_
           clear HO_0 HO337 HO351 HB
           intro HO_0 HO337 HO351 HO343 HB
           clear hb ho37
           refine hK.out _ _ trivial (fun hHeld=>?_)
           clear hK K
           refine norm_ (a':=?_) ?_ ?_
           rotate_left
           ·show Act.put _ (some 39) _=_
            simp only [Act.put,List.setIfInBounds_toArray,List.set_cons_zero,List.set_cons_succ,i64_w,i32_w]
            rfl
           refine one_ (i:=0) (N:=some 33) #[true,true,true,true,false,true,true,false,true,true,true,false,false] rfl rfl (one_of HT_.out (by kernel_rfl)) (by decide) (fun K hK=>?_)
           refine Kd.R_lit_step (Kd.int .i64) _ 3 ?hg (N:=33) ?hd (xs:=([]:List Int)) (inner:=[]) (ok:=fun _=>True) (okp:=fun _=>True) ?hr ?hp (fun _ hk=>hk) trivial (Below.refl _ _) (Nat.le_refl _) (by simp) ?_;(case hd=>rfl);(case hg=>rfl);(case hr=>first|(go_simp;done)|(go_simp;rfl));(case hp=>exact (Reps.none _ _))
           intro v331 w38 ho39 hb hg_ hnew_
           clear hg_ hnew_
           (first|rw [← Ny330.out] at ho39|(simp only [Int.reduceToNat] at ho39;rw [← Ny330.out] at ho39))
           have n0_:=Zz.mk (Kd.V_elder' (by (with_reducible repeat (first|apply Kd.V_alloc|apply Kd.V_drewN|apply Kd.V_drew));exact HO_0.out) (Kd.R_base ho39) hb)
           have n1_:=Zz.mk (Kd.V_elder' (by (with_reducible repeat (first|apply Kd.V_alloc|apply Kd.V_drewN|apply Kd.V_drew));exact HO337.out) (Kd.R_base ho39) hb)
           have n2_:=Zz.mk (Kd.V_elder' (by (with_reducible repeat (first|apply Kd.V_alloc|apply Kd.V_drewN|apply Kd.V_drew));exact HO351.out) (Kd.R_base ho39) hb)
           have n3_:=Zz.mk (Kd.R_elder' HO343.out (Kd.R_base ho39) hb)
           have n4_:=Zz.mk (Kd.R_lower (Kd.R_new' (Kd.R_newM (M:=fun k_=>(w.heap.size≤k_)) ho39 (qZ HB.out) (fun k_ h_=>h_)) (Kd.R_lt HO343.out)) (qZ HB.out))
           have n5_:=Zz.mk (qP HB.out hb)
           revert n0_ n1_ n2_ n3_ n4_ n5_
           clear HO_0 HO337 HO351 HO343 HB
           intro HO_0 HO337 HO351 HO343 HO332 HB
           clear hb ho39
           refine hK.out _ _ trivial (fun hHeld=>?_)
           clear hK K
           refine norm_ (a':=?_) ?_ ?_
           rotate_left
           ·show Act.put _ (some 33) _=_
            simp only [Act.put,List.setIfInBounds_toArray,List.set_cons_zero,List.set_cons_succ,i64_w,i32_w]
            rfl
           refine one_ (i:=4) (N:=some 37) #[true,true,true,true,true,true,true,false,true,true,true,false,false] rfl rfl (one_of HT_.out (by kernel_rfl)) (by decide) (fun K hK=>?_)
           refine Kd.R_append_rows_step (Kd.int .i64) (w0:=w) w.heap.size (by rfl) (.tmp 33) (.tmp 36) 38 3 (.int .i64 0) 8 rfl Tryz.underlying38 info3 rfl (by decide) (by omega) v331 y330 y333 _ _ _ (fun k_=>(w.heap.size≤k_)∧some k_ ≠ (v342:Value).ownBlock) (fun _=>False) rfl rfl ?aO ?aR (fun _ _ h=>h) (fun _ h=>h.elim) ?aF ?aB ?aS ?aL ?_
           (case aR=>repeat (first|exact (Kd.V_reads' HO337.out).2.2|(with_reducible refine Kd.C_alloc ?_ _)|(with_reducible refine Kd.C_drewN ?_ _)|(with_reducible refine Kd.C_drew ?_)))
           (case aB=>exact (by repeat (first|(with_reducible first|exact HB.out|apply qA|apply qN|apply q1_)|exact HB.out)))
           (case aF=>exact (fun k_ hk=>⟨(Nat.le_trans (qZ (by repeat (first|(with_reducible first|exact HB.out|apply qA|apply qN|apply q1_)|exact HB.out))) hk),Kd.fresh' (Kd.R_lt (by (with_reducible repeat first|apply Kd.R_alloc|apply Kd.R_drewN|apply Kd.R_drew);exact HO343.out)) k_ hk⟩))
           (case aO=>exact (by (with_reducible repeat first|apply Kd.R_alloc|apply Kd.R_drewN|apply Kd.R_drew);exact Kd.R_mono HO332.out (fun _ hk=>⟨hk.1.1,hk.2⟩)))
           (case aS=>exact (qZ (by repeat (first|(with_reducible first|exact HB.out|apply qA|apply qN|apply q1_)|exact HB.out))))
           (case aL=>have:=LMc28.out;omega)
           intro v339 w40 ho hb hg hat
           rw [← Ny338.out] at ho
           have n0_:=Zz.mk (Kd.V_afterv (ok:=(fun k_=>(P0_ k_∨w.heap.size≤k_)∧some k_ ≠ (v342:Value).ownBlock)) (by (with_reducible repeat (first|apply Kd.V_alloc|apply Kd.V_drewN|apply Kd.V_drew));exact HO_0.out) hg hat)
           have n1_:=Zz.mk (Kd.V_afterv (ok:=(fun k_=>(P0_ k_∨w.heap.size≤k_)∧some k_ ≠ (v342:Value).ownBlock)) (by (with_reducible repeat (first|apply Kd.V_alloc|apply Kd.V_drewN|apply Kd.V_drew));exact HO337.out) hg hat)
           have n2_:=Zz.mk (Kd.V_afterv (ok:=(fun k_=>(P0_ k_∨w.heap.size≤k_)∧some k_ ≠ (v342:Value).ownBlock)) (by (with_reducible repeat (first|apply Kd.V_alloc|apply Kd.V_drewN|apply Kd.V_drew));exact HO351.out) hg hat)
           have n3_:=Zz.mk (Kd.R_after (ok:=(fun k_=>(w.heap.size≤k_))) (Kd.R_mono HO343.out (fun _ hk=>⟨hk.1.1,hk.2⟩)) hg hat)
           have n4_:=Zz.mk (hb)
           have n5_:=Zz.mk (ho)
           revert n0_ n1_ n2_ n3_ n4_ n5_
           clear HO_0 HO337 HO351 HO343 HB HO332
           intro HO_0 HO337 HO351 HO343 HB HO340
           clear ho hb hg hat
           refine hK.out _ _ trivial (fun hHeld=>?_)
           clear hK K
           refine norm_ (a':=?_) ?_ ?_
           rotate_left
           ·show Act.put _ (some 37) _=_
            simp only [Act.put,List.setIfInBounds_toArray,List.set_cons_zero,List.set_cons_succ,i64_w,i32_w]
            rfl
           exact norm_ (by simp only [putAll,Act.put,List.setIfInBounds_toArray,List.set_cons_zero,List.set_cons_succ]) (hCont (v331,v339,v342) _ ⟨(by (with_reducible repeat (first|apply Kd.V_alloc|apply Kd.V_drewN|apply Kd.V_drew));exact Kd.V_mono HO337.out (fun _ hk=>⟨hk.1.1,⟨hk.2,hk.1.2⟩⟩)),HO340.out,HO343.out,(by (with_reducible repeat (first|apply Kd.V_alloc|apply Kd.V_drewN|apply Kd.V_drew));exact Kd.V_mono HO351.out (fun _ hk=>⟨hk.1.1,⟨hk.2,hk.1.2⟩⟩)),(by (with_reducible repeat (first|apply Kd.V_alloc|apply Kd.V_drewN|apply Kd.V_drew));exact Kd.V_mono HO_0.out (fun _ hk=>⟨hk.1.1,⟨hk.2,hk.1.2⟩⟩)),HB.out⟩)
         rintro ⟨v331,v339,v342⟩ w41 ⟨h0_,h1_,h2_,h3_,h4_,h5_⟩
         have n0_:Zz (Kd.V (Kd.int .i64) 3 w41 w.heap.size (fun k_=>(P0_ k_∨w.heap.size≤k_)∧some k_ ≠ (v339:Value).ownBlock∧some k_ ≠ (v342:Value).ownBlock) (.slice A0 y333.length c0) y333):=⟨h0_⟩
         have n1_:Zz (Kd.R (Kd.int .i64) 3 w41 w.heap.size (fun k_=>(w.heap.size≤k_)∧some k_ ≠ (v342:Value).ownBlock) v339 y338):=⟨h1_⟩
         have n2_:Zz (Kd.R (Kd.int .i64) 3 w41 w.heap.size (fun k_=>(w.heap.size≤k_)∧some k_ ≠ (v339:Value).ownBlock) v342 y341):=⟨h2_⟩
         have n3_:Zz (Kd.V (Kd.int .i64) 3 w41 w.heap.size (fun k_=>(P0_ k_∨w.heap.size≤k_)∧some k_ ≠ (v339:Value).ownBlock∧some k_ ≠ (v342:Value).ownBlock) (.slice A35 y347.length c35) y347):=⟨h3_⟩
         have n4_:Zz (Kd.V (Kd.int .i64) 3 w41 w.heap.size (fun k_=>(P0_ k_∨w.heap.size≤k_)∧some k_ ≠ (v339:Value).ownBlock∧some k_ ≠ (v342:Value).ownBlock) (.slice A0 l0.length c0) l0):=⟨h4_⟩
         have n5_:Zz (Below w.heap.size w w41):=⟨h5_⟩
         clear HO_0
         clear HB
         clear h0_ h1_ h2_ h3_ h4_ h5_
         have HO337:=n0_
         have HO340:=n1_
         have HO343:=n2_
         have HO351:=n3_
         have HO_0:=n4_
         have HB:=n5_
         clear n0_ n1_ n2_ n3_ n4_ n5_
         have hHeld:=trivial
         obtain ⟨Ao43,co43,eo43⟩:=Kd.R_slice HO343.out
         (first|subst eo43|(injection eo43 with f1_ f2_ f3_;have f4_:=f1_.symm;have f5_:=f3_.symm;clear f1_ f2_ f3_;subst f4_;subst f5_))
         refine norm_ (a':=?_) ?_ ?_
         rotate_left
         ·simp only [putAll,Act.put,List.setIfInBounds_toArray,List.set_cons_zero,List.set_cons_succ]
          rfl
         refine one_ (i:=7) (N:=some 40) #[true,true,true,true,true,true,true,true,true,true,true,false,false] rfl rfl (one_of HT_.out (by kernel_rfl)) (by decide) (fun K hK=>?_)
         refine Kd.R_append_rows_step (Kd.int .i64) (w0:=w) w.heap.size (by rfl) (.tmp 37) (.tmp 39) 38 3 (.int .i64 0) 8 rfl Tryz.underlying38 info3 rfl (by decide) (by omega) v339 y338 y341 _ _ _ (fun k_=>(w.heap.size≤k_)∧some k_ ≠ (.slice Ao43 y341.length co43:Value).ownBlock) (fun _=>False) rfl rfl ?aO ?aR (fun _ _ h=>h) (fun _ h=>h.elim) ?aF ?aB ?aS ?aL ?_
         (case aR=>repeat (first|exact (Kd.R_reads' HO343.out).2.2|(with_reducible refine Kd.C_alloc ?_ _)|(with_reducible refine Kd.C_drewN ?_ _)|(with_reducible refine Kd.C_drew ?_)))
         (case aB=>exact (by repeat (first|(with_reducible first|exact HB.out|apply qA|apply qN|apply q1_)|exact HB.out)))
         (case aF=>exact (fun k_ hk=>⟨(Nat.le_trans (qZ (by repeat (first|(with_reducible first|exact HB.out|apply qA|apply qN|apply q1_)|exact HB.out))) hk),Kd.fresh' (Kd.R_lt (by (with_reducible repeat first|apply Kd.R_alloc|apply Kd.R_drewN|apply Kd.R_drew);exact HO343.out)) k_ hk⟩))
         (case aO=>exact (by (with_reducible repeat first|apply Kd.R_alloc|apply Kd.R_drewN|apply Kd.R_drew);exact HO340.out))
         (case aS=>exact (qZ (by repeat (first|(with_reducible first|exact HB.out|apply qA|apply qN|apply q1_)|exact HB.out))))
         (case aL=>have:=LMc29.out;omega)
         intro v345 w42 ho hb hg hat
         rw [← Ny344.out] at ho
         have n0_:=Zz.mk (Kd.V_afterv (ok:=(fun k_=>(P0_ k_∨w.heap.size≤k_)∧some k_ ≠ (.slice Ao43 y341.length co43:Value).ownBlock)) (by (with_reducible repeat (first|apply Kd.V_alloc|apply Kd.V_drewN|apply Kd.V_drew));exact Kd.V_mono HO_0.out (fun _ hk=>⟨⟨hk.1,hk.2.2⟩,hk.2.1⟩)) hg hat)
         have n1_:=Zz.mk (Kd.V_afterv (ok:=(fun k_=>(P0_ k_∨w.heap.size≤k_)∧some k_ ≠ (.slice Ao43 y341.length co43:Value).ownBlock)) (by (with_reducible repeat (first|apply Kd.V_alloc|apply Kd.V_drewN|apply Kd.V_drew));exact Kd.V_mono HO337.out (fun _ hk=>⟨⟨hk.1,hk.2.2⟩,hk.2.1⟩)) hg hat)
         have n2_:=Zz.mk (Kd.V_afterv (ok:=(fun k_=>(P0_ k_∨w.heap.size≤k_)∧some k_ ≠ (.slice Ao43 y341.length co43:Value).ownBlock)) (by (with_reducible repeat (first|apply Kd.V_alloc|apply Kd.V_drewN|apply Kd.V_drew));exact Kd.V_mono HO351.out (fun _ hk=>⟨⟨hk.1,hk.2.2⟩,hk.2.1⟩)) hg hat)
         have n3_:=Zz.mk (Kd.R_after (ok:=(fun k_=>(w.heap.size≤k_))) HO343.out hg hat)
         have n4_:=Zz.mk (hb)
         have n5_:=Zz.mk (ho)
         revert n0_ n1_ n2_ n3_ n4_ n5_
         clear HO_0 HO337 HO351 HO343 HB HO340
         intro HO_0 HO337 HO351 HO343 HB HO346
         clear ho hb hg hat
         refine hK.out _ _ trivial (fun hHeld=>?_)
         clear hK K
         refine norm_ (a':=?_) ?_ ?_
         rotate_left
         ·show Act.put _ (some 40) _=_
          simp only [Act.put,List.setIfInBounds_toArray,List.set_cons_zero,List.set_cons_succ,i64_w,i32_w]
          rfl
         refine one_ (i:=11) (N:=some 44) #[true,true,true,true,true,true,true,true,true,true,true,true,false] rfl rfl (one_of HT_.out (by kernel_rfl)) (by decide) (fun K hK=>?_)
         refine Kd.R_append_rows_step (Kd.int .i64) (w0:=w) w.heap.size (by rfl) (.tmp 40) (.tmp 43) 38 3 (.int .i64 0) 8 rfl Tryz.underlying38 info3 rfl (by decide) (by omega) v345 y344 y347 _ _ _ (fun k_=>(w.heap.size≤k_)∧some k_ ≠ (.slice Ao43 y341.length co43:Value).ownBlock) (fun _=>False) rfl rfl ?aO ?aR (fun _ _ h=>h) (fun _ h=>h.elim) ?aF ?aB ?aS ?aL ?_
         (case aR=>repeat (first|exact (Kd.V_reads' HO351.out).2.2|(with_reducible refine Kd.C_alloc ?_ _)|(with_reducible refine Kd.C_drewN ?_ _)|(with_reducible refine Kd.C_drew ?_)))
         (case aB=>exact (by repeat (first|(with_reducible first|exact HB.out|apply qA|apply qN|apply q1_)|exact HB.out)))
         (case aF=>exact (fun k_ hk=>⟨(Nat.le_trans (qZ (by repeat (first|(with_reducible first|exact HB.out|apply qA|apply qN|apply q1_)|exact HB.out))) hk),Kd.fresh' (Kd.R_lt (by (with_reducible repeat first|apply Kd.R_alloc|apply Kd.R_drewN|apply Kd.R_drew);exact HO343.out)) k_ hk⟩))
         (case aO=>exact (by (with_reducible repeat first|apply Kd.R_alloc|apply Kd.R_drewN|apply Kd.R_drew);exact HO346.out))
         (case aS=>exact (qZ (by repeat (first|(with_reducible first|exact HB.out|apply qA|apply qN|apply q1_)|exact HB.out))))
         (case aL=>have:=LMc32.out;omega)
         intro v353 w44 ho hb hg hat
         rw [← Ny352.out] at ho
         have n0_:=Zz.mk (Kd.V_afterv (ok:=(fun k_=>(P0_ k_∨w.heap.size≤k_)∧some k_ ≠ (.slice Ao43 y341.length co43:Value).ownBlock)) (by (with_reducible repeat (first|apply Kd.V_alloc|apply Kd.V_drewN|apply Kd.V_drew));exact HO_0.out) hg hat)
         have n1_:=Zz.mk (Kd.V_afterv (ok:=(fun k_=>(P0_ k_∨w.heap.size≤k_)∧some k_ ≠ (.slice Ao43 y341.length co43:Value).ownBlock)) (by (with_reducible repeat (first|apply Kd.V_alloc|apply Kd.V_drewN|apply Kd.V_drew));exact HO337.out) hg hat)
         have n2_:=Zz.mk (Kd.V_afterv (ok:=(fun k_=>(P0_ k_∨w.heap.size≤k_)∧some k_ ≠ (.slice Ao43 y341.length co43:Value).ownBlock)) (by (with_reducible repeat (first|apply Kd.V_alloc|apply Kd.V_drewN|apply Kd.V_drew));exact HO351.out) hg hat)
         have n3_:=Zz.mk (Kd.R_after (ok:=(fun k_=>(w.heap.size≤k_))) HO343.out hg hat)
         have n4_:=Zz.mk (hb)
         have n5_:=Zz.mk (ho)
         revert n0_ n1_ n2_ n3_ n4_ n5_
         clear HO_0 HO337 HO351 HO343 HB HO346
         intro HO_0 HO337 HO351 HO343 HB HO354
         clear ho hb hg hat
         refine hK.out _ _ trivial (fun hHeld=>?_)
         clear hK K
         refine norm_ (a':=?_) ?_ ?_
         rotate_left
         ·show Act.put _ (some 44) _=_
          simp only [Act.put,List.setIfInBounds_toArray,List.set_cons_zero,List.set_cons_succ,i64_w,i32_w]
          rfl
         refine pure_ (i:=12) (N:=some 4) (v:=?_) (a':=?_) #[true,true,true,true,true,true,true,true,true,true,true,true,true] rfl rfl (any_of HT_.out (by kernel_rfl)) (fun _ _ _ h=>h) (Or.inl ⟨by rfl,?_⟩) ?_ ?_
         rotate_left
         ·intro w'
          go_simp
          with_reducible rfl
         rotate_left
         ·simp only [Act.put,List.setIfInBounds_toArray,List.set_cons_zero,List.set_cons_succ,i64_w,i32_w]
          rfl
         refine done_ (done_of HT_.out (by kernel_rfl)) ?_
         try go_wp2
         go_ret
         exact ⟨_,by first|rfl|(simp [errW_none,errW_some] <;> rfl)|(simp [*,errW_none,errW_some] <;> rfl),Kd.V_mono (Kd.R_V (by (with_reducible repeat first|apply Kd.R_alloc|apply Kd.R_drewN|apply Kd.R_drew);exact Kd.R_mono HO354.out (fun _ hk=>hk.1))) (fun k_ hk=>by first|exact ⟨(.inr (hk.1)),hk.2⟩|exact (.inr (hk))),by repeat (first|(with_reducible first|exact HB.out|apply qA|apply qN|apply q1_)|exact HB.out)⟩
        ·rw [if_neg c32] at H
         exact absurd H (by simp)
       ·rw [if_neg c29] at H
        exact absurd H (by simp)
      ·rw [if_neg c28] at H
       exact absurd H (by simp)
     ·rw [if_neg c27] at H
      exact absurd H (by simp)
    ·rw [if_neg c26] at H
     exact absurd H (by simp)
end Go.Proofs.YtadpmgdmiaoniaaGreatDoor.Q
namespace Go.Proofs.YtadpmgdmiaoniaaGreatDoor.Q
open Go.RowKit Go.Proofs.YtadpmgdmiaoniaaGreatDoorW.PrintWords Go.Proofs.YtadpmgdmiaoniaaGreatDoorW.PrintLast Go.Proofs.YtadpmgdmiaoniaaGreatDoorW.PrintMore
attribute [local go_sem] run_field_23 run_field_24 run_field_30 run_field_31 isSome_setCell max2_int min2_int max_two min_two max_three min_three max_four min_four   -- for this text's walks alone
set_option linter.unusedVariables false
set_option linter.unusedSimpArgs false
def spec_l3Matches.l0:Nat→List ByteArray→ByteArray→Int→List Int→Int→Option (List Int)
  | 0,_,_,_,_,_=>none
  | k+1,x0,x1,x2,x7,x8=>if x8<(x0.length:Int) then (if 0≤x8 then (if (rdOf ByteArray.empty x0 x8).toList=([]:List UInt8) then (spec_l3Matches.l0 k x0 x1 x2 x7 (wrap64 (x8+1))) else ((spec_l3Stands.f x1 (rdOf ByteArray.empty x0 x8) x2).bind fun t360=>(if t360=true then ((spec_l1Put.f k x7 ((rdOf ByteArray.empty x0 x8).size:Int)).bind fun t362=>(spec_l3Matches.l0 k x0 x1 x2 t362 (wrap64 (x8+1)))) else (spec_l3Matches.l0 k x0 x1 x2 x7 (wrap64 (x8+1)))))) else (none)) else (some x7)
def spec_l3Matches.f (k:Nat) (l0:List ByteArray) (a1:ByteArray) (a2:Int):Option (List Int):=spec_l3Matches.l0 k l0 a1 a2 (([]:List Int)) 0
set_option maxHeartbeats 8000000 in
set_option maxRecDepth 100000 in
theorem spec_l3Matches.calls (k:Nat) (A0:Option Addr) (c0:Nat) (l0:List ByteArray) (a1:ByteArray) (a2:Int) (r:List Int) (w:World) (hr0:Kd.C Kd.string w A0 l0.length l0) (hc0:l0.length≤c0) (h:spec_l3Matches.f k l0 a1 a2=some r) :
  Calls Tryz.prog 28 #[.slice A0 l0.length c0,.string a1,.int .i64 a2] w fun e w'=>∃ v0_:Value,e=.returned (v0_)∧Kd.V (Kd.int .i64) 3 w' w.heap.size (fun k_=>(w.heap.size≤k_)) v0_ r∧Below w.heap.size w w':=by
 have HR0:=Zz.mk hr0
 have HC0:=Zz.mk hc0
 clear hr0 hc0
 have HB:=Zz.mk (Below.refl w.heap.size w)
 have H:(spec_l3Matches.l0 k l0 a1 a2 (([]:List Int)) 0)=some r:=h
 clear h
 obtain ⟨y355,hy355⟩:∃ y_:List Int,y_=(([]:List Int)):=⟨_,rfl⟩
 replace H:(spec_l3Matches.l0 k l0 a1 a2 y355 0)=some r:=by first|(rw [hy355];with_reducible exact H)|(have H2_:=(Option.bind_some _ _).symm.trans H;rw [hy355];with_reducible exact H2_)|(have H2_:=(Option.bind_some _ _).symm.trans H;with_reducible exact H2_)|with_reducible exact H|(rw [hy355];exact H)|exact H
 have Ny355:=Zz.mk hy355
 clear hy355
 have H':=Zz.mk H
 clear H
 go_enter Tryz.func28,Tryz.ntmps28
 go_wp2_with (first|((with_reducible refine gate_dst (N:=9) rfl ?_);refine Kd.R_lit (Kd.int .i64) _ 3 ?hg (N:=9) ?hd (xs:=([]:List Int)) (inner:=[]) (ok:=fun _=>True) (okp:=fun _=>True) ?hr ?hp (fun _ hk=>hk) trivial (Below.refl _ _) (Nat.le_refl _) (by simp) ?_;(case hd=>rfl);(case hg=>rfl);(case hr=>first|(go_simp;done)|(go_simp;rfl));(case hp=>exact (Reps.none _ _));intro v356 w4 ho5 hb hg_ hnew_;clear hg_ hnew_;(first|rw [← Ny355.out] at ho5|(simp only [Int.reduceToNat] at ho5;rw [← Ny355.out] at ho5));have n0_:=Zz.mk (Kd.R_lower (Kd.R_newM (M:=fun k_=>(w.heap.size≤k_)) ho5 (qZ (by repeat (first|(with_reducible first|exact HB.out|apply qA|apply qN|apply q1_)|exact HB.out))) (fun k_ h_=>h_)) (qZ (by repeat (first|(with_reducible first|exact HB.out|apply qA|apply qN|apply q1_)|exact HB.out))));have n1_:=Zz.mk (qP (by repeat (first|(with_reducible first|exact HB.out|apply qA|apply qN|apply q1_)|exact HB.out)) hb);clear HB;have HO357:=n0_;have HB:=n1_;clear n0_ n1_;clear hb ho5))
 go_loopg [7,8] k (fun kq v7 v8 w'=>∃ (x7_1:List Int) (x8_1:Int),v8=.int .i64 x8_1∧Zz (spec_l3Matches.l0 kq l0 a1 a2 x7_1 x8_1=some r)∧Zz (kq≤k)∧Zz (Kd.V (Kd.int .i64) 3 w' w.heap.size (fun k_=>(w.heap.size≤k_)) v7 x7_1)∧Zz (Below w.heap.size w w'))
 case atStart=>exact ⟨(y355),(0),(by first|rfl|(simp;done)|(simp [*];done)),H',⟨Nat.le_refl _⟩,⟨Kd.R_V (by (with_reducible repeat first|apply Kd.R_alloc|apply Kd.R_drewN|apply Kd.R_drew);exact Kd.R_mono HO357.out (fun _ hk=>hk.1))⟩,⟨by repeat (first|(with_reducible first|exact HB.out|apply qA|apply qN|apply q1_)|exact HB.out)⟩⟩
 case round =>
  clear H'
  try clear c2
  try clear p2
  obtain ⟨x7_1,x8_1,rfl,HA,HK1,HO_7,HB⟩:=hrel
  cases gk with
  | zero=>exact absurd HA.out (by simp [spec_l3Matches.l0])
  | succ k1 =>
   have H:=HA.out
   clear HA
   simp only [spec_l3Matches.l0] at H
   by_cases c6:x8_1<(l0.length:Int)
   ·rw [if_pos c6] at H
    have c6b0:decide (x8_1<(l0.length:Int))=true:=decide_eq_true c6
    clear c6
    by_cases c7:0≤x8_1
    ·rw [if_pos c7] at H
     have c7b0:decide (0≤x8_1)=true:=decide_eq_true c7
     clear c7
     by_cases c8:(rdOf ByteArray.empty l0 x8_1).toList=([]:List UInt8)
     ·rw [if_pos c8] at H
      have c8b0:((rdOf ByteArray.empty l0 x8_1).toList == ([]:List UInt8))=true:=beq_iff_eq.mpr c8
      have c8b1:((rdOf ByteArray.empty l0 x8_1).toList != ([]:List UInt8))=false:=bne_eq_false_iff_eq.mpr c8
      clear c8
      have H':=Zz.mk H
      clear H
      have p358:0≤(x8_1:Int):=of_decide_eq_true (by first|(with_reducible assumption)|assumption)
      have q358:x8_1<(l0.length:Int):=of_decide_eq_true (by first|(with_reducible assumption)|assumption)
      obtain ⟨ad358,e358,hx358_0⟩:=Kd.at_string HR0.out x8_1 p358 q358
      cases e358
      replace hx358_0:=(HB.out.cell (World.block_lt_of_cell? w _ hx358_0)).trans hx358_0
      replace p358:=eq_true p358
      replace q358:=eq_true q358
      go_wp2
      go_roundg k1
      case measure=>have:=HK1.out;omega
      case rel=>exact ⟨(x7_1),(wrap64 (x8_1+1)),(by first|rfl|(simp;done)|(simp [*];done)),H',⟨by have:=HK1.out;omega⟩,⟨by (with_reducible repeat (first|apply Kd.V_alloc|apply Kd.V_drewN|apply Kd.V_drew));exact HO_7.out⟩,⟨by repeat (first|(with_reducible first|exact HB.out|apply qA|apply qN|apply q1_)|exact HB.out)⟩⟩
     ·rw [if_neg c8] at H
      have c8b0:((rdOf ByteArray.empty l0 x8_1).toList == ([]:List UInt8))=false:=beq_eq_false_iff_ne.mpr c8
      have c8b1:((rdOf ByteArray.empty l0 x8_1).toList != ([]:List UInt8))=true:=bne_iff_ne.mpr c8
      replace H:=Option.bind_eq_some_iff.mp H
      obtain ⟨t360,A90,H⟩:=H
      replace H:(if t360=true then ((spec_l1Put.f k1 x7_1 ((rdOf ByteArray.empty l0 x8_1).size:Int)).bind fun t362=>(spec_l3Matches.l0 k1 l0 a1 a2 t362 (wrap64 (x8_1+1)))) else (spec_l3Matches.l0 k1 l0 a1 a2 x7_1 (wrap64 (x8_1+1))))=some r:=H
      have A9:=Zz.mk A90
      clear A90
      by_cases c10:t360=true
      ·subst c10
       have H1:((spec_l1Put.f k1 x7_1 ((rdOf ByteArray.empty l0 x8_1).size:Int)).bind fun t362=>(spec_l3Matches.l0 k1 l0 a1 a2 t362 (wrap64 (x8_1+1))))=some r:=by rw [if_pos rfl] at H;exact H
       clear H
       have H:=H1
       clear H1
       replace H:=Option.bind_eq_some_iff.mp H
       obtain ⟨t362,A110,H⟩:=H
       replace H:(spec_l3Matches.l0 k1 l0 a1 a2 t362 (wrap64 (x8_1+1)))=some r:=H
       have A11:=Zz.mk A110
       clear A110
       have H':=Zz.mk H
       clear H
       have p358:0≤(x8_1:Int):=of_decide_eq_true (by first|(with_reducible assumption)|assumption)
       have q358:x8_1<(l0.length:Int):=of_decide_eq_true (by first|(with_reducible assumption)|assumption)
       obtain ⟨ad358,e358,hx358_0⟩:=Kd.at_string HR0.out x8_1 p358 q358
       cases e358
       replace hx358_0:=(HB.out.cell (World.block_lt_of_cell? w _ hx358_0)).trans hx358_0
       replace p358:=eq_true p358
       replace q358:=eq_true q358
       have p359:0≤(x8_1:Int):=of_decide_eq_true (by first|(with_reducible assumption)|assumption)
       have q359:x8_1<(l0.length:Int):=of_decide_eq_true (by first|(with_reducible assumption)|assumption)
       obtain ⟨ad359,e359,hx359_0⟩:=Kd.at_string HR0.out x8_1 p359 q359
       obtain rfl:ad358=ad359:=(by injection e359)
       replace hx359_0:=(HB.out.cell (World.block_lt_of_cell? w _ hx359_0)).trans hx359_0
       replace p359:=eq_true p359
       replace q359:=eq_true q359
       go_wp2_with (first|(go_at_call 42;(with_reducible refine (spec_l3Stands.calls a1 (rdOf ByteArray.empty l0 x8_1) a2 true _ A9.out).mono ?_);rintro e w' ⟨rfl,⟨nd,rfl⟩⟩;have p361:0≤(x8_1:Int):=of_decide_eq_true (by first|(with_reducible assumption)|assumption);have q361:x8_1<(l0.length:Int):=of_decide_eq_true (by first|(with_reducible assumption)|assumption);obtain ⟨ad361,e361,hx361_0⟩:=Kd.at_string HR0.out x8_1 p361 q361;obtain rfl:ad358=ad361:=(by injection e361);replace hx361_0:=(HB.out.cell (World.block_lt_of_cell? w _ hx361_0)).trans hx361_0;replace p361:=eq_true p361;replace q361:=eq_true q361;obtain ⟨Ao12,co12,eo12⟩:=Kd.V_slice HO_7.out;subst eo12)|((with_reducible refine gate_callee (f:=43) rfl ?_);refine goesL_ (some 36) rfl rfl Tryz.func43 (by kernel_rfl) rfl #[.slice Ao12 x7_1.length co12,.int .i64 ((rdOf ByteArray.empty l0 x8_1).size:Int)] rfl (by (try simp only [List.map_toArray,List.map_cons,List.map_nil]);first|done|rfl|(simp only [List.length_drop,List.length_take];rfl)) ?_;(with_reducible refine (spec_l1Put.calls k1 (fun k_=>(w.heap.size≤k_)) _ _ x7_1 ((rdOf ByteArray.empty l0 x8_1).size:Int) t362 _ ?side1 A11.out).mono ?_);(case side1=>exact HO_7.out);rintro e w13 ⟨v363,rfl,ho0,hb⟩;refine ⟨_,rfl,?_⟩;have n0_:=Zz.mk (Kd.V_below (by (with_reducible repeat (first|apply Kd.V_alloc|apply Kd.V_drewN|apply Kd.V_drew));exact HO_7.out) hb);have n1_:=Zz.mk (Kd.V_lower (Kd.V_mono (ok':=fun k_=>(w.heap.size≤k_)) ho0 (fun k_ hk_=>Or.elim hk_ (fun hs_=>hs_) (fun hn_=>(Nat.le_trans (qZ (by repeat (first|(with_reducible first|exact HB.out|apply qA|apply qN|apply q1_)|exact HB.out))) hn_)))) (qZ (by repeat (first|(with_reducible first|exact HB.out|apply qA|apply qN|apply q1_)|exact HB.out))));have n2_:=Zz.mk (qP (by repeat (first|(with_reducible first|exact HB.out|apply qA|apply qN|apply q1_)|exact HB.out)) hb);clear HO_7;clear HB;have HO_7:=n0_;have HO364:=n1_;have HB:=n2_;clear n0_ n1_ n2_;(try clear hb);(try clear hb2);(try clear hk);(try clear hi);(try clear ho0)))
       go_roundg k1
       case measure=>have:=HK1.out;omega
       case rel=>exact ⟨(t362),(wrap64 (x8_1+1)),(by first|rfl|(simp;done)|(simp [*];done)),H',⟨by have:=HK1.out;omega⟩,⟨by (with_reducible repeat (first|apply Kd.V_alloc|apply Kd.V_drewN|apply Kd.V_drew));exact HO364.out⟩,⟨by repeat (first|(with_reducible first|exact HB.out|apply qA|apply qN|apply q1_)|exact HB.out)⟩⟩
      ·replace c10:=Bool.eq_false_iff.mpr c10
       subst c10
       have H1:(spec_l3Matches.l0 k1 l0 a1 a2 x7_1 (wrap64 (x8_1+1)))=some r:=by rw [if_neg (show ¬ (false=true) by decide)] at H;exact H
       clear H
       have H:=H1
       clear H1
       have H':=Zz.mk H
       clear H
       have p358:0≤(x8_1:Int):=of_decide_eq_true (by first|(with_reducible assumption)|assumption)
       have q358:x8_1<(l0.length:Int):=of_decide_eq_true (by first|(with_reducible assumption)|assumption)
       obtain ⟨ad358,e358,hx358_0⟩:=Kd.at_string HR0.out x8_1 p358 q358
       cases e358
       replace hx358_0:=(HB.out.cell (World.block_lt_of_cell? w _ hx358_0)).trans hx358_0
       replace p358:=eq_true p358
       replace q358:=eq_true q358
       have p359:0≤(x8_1:Int):=of_decide_eq_true (by first|(with_reducible assumption)|assumption)
       have q359:x8_1<(l0.length:Int):=of_decide_eq_true (by first|(with_reducible assumption)|assumption)
       obtain ⟨ad359,e359,hx359_0⟩:=Kd.at_string HR0.out x8_1 p359 q359
       obtain rfl:ad358=ad359:=(by injection e359)
       replace hx359_0:=(HB.out.cell (World.block_lt_of_cell? w _ hx359_0)).trans hx359_0
       replace p359:=eq_true p359
       replace q359:=eq_true q359
       go_wp2_with (first|(go_at_call 42;(with_reducible refine (spec_l3Stands.calls a1 (rdOf ByteArray.empty l0 x8_1) a2 false _ A9.out).mono ?_);rintro e w' ⟨rfl,⟨nd,rfl⟩⟩))
       go_roundg k1
       case measure=>have:=HK1.out;omega
       case rel=>exact ⟨(x7_1),(wrap64 (x8_1+1)),(by first|rfl|(simp;done)|(simp [*];done)),H',⟨by have:=HK1.out;omega⟩,⟨by (with_reducible repeat (first|apply Kd.V_alloc|apply Kd.V_drewN|apply Kd.V_drew));exact HO_7.out⟩,⟨by repeat (first|(with_reducible first|exact HB.out|apply qA|apply qN|apply q1_)|exact HB.out)⟩⟩
    ·rw [if_neg c7] at H
     exact absurd H (by simp)
   ·rw [if_neg c6] at H
    have c6b0:decide (x8_1<(l0.length:Int))=false:=decide_eq_false c6
    clear c6
    obtain rfl:=Option.some.inj H
    go_wp2
    go_ret
    exact ⟨_,by first|rfl|(simp [errW_none,errW_some] <;> rfl)|(simp [*,errW_none,errW_some] <;> rfl),by (with_reducible repeat (first|apply Kd.V_alloc|apply Kd.V_drewN|apply Kd.V_drew));exact HO_7.out,by repeat (first|(with_reducible first|exact HB.out|apply qA|apply qN|apply q1_)|exact HB.out)⟩
end Go.Proofs.YtadpmgdmiaoniaaGreatDoor.Q
