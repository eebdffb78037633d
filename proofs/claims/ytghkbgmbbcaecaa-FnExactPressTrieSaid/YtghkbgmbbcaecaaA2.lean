import Derived.Test.YtghkbgmbbcaecaaA0
import Derived.Test.YtghkbgmbbcaecaaA1
import Derived.Test.YtghkbgmbbcaecaaAwWords
import Derived.Test.YtghkbgmbbcaecaaAwLast
import Derived.Test.YtghkbgmbbcaecaaAwTab
import Derived.Test.YtghkbgmbbcaecaaAwApart
import Derived.Test.YtghkbgmbbcaecaaAwFoot
import Derived.Test.YtghkbgmbbcaecaaAwKept
import Derived.Test.YtghkbgmbbcaecaaAwShare
import Derived.Test.YtghkbgmbbcaecaaAwN
import Derived.Test.YtghkbgmbbcaecaaAwEqStruct
import Derived.Test.YtghkbgmbbcaecaaAwRepsOne
import Derived.Test.YtghkbgmbbcaecaaAwGuard
import Derived.Test.YtghkbgmbbcaecaaAwMore
import Derived.Test.YtghkbgmbbcaecaaProg
import Derived.Below
import Derived.Deep.Draws
import Derived.Deep.AppendLies
import Derived.Maps.AppendAt
import Derived.OwnWalk
import Derived.Laws.BytesArg
import Derived.Laws.MakeOwn
import Derived.Laws.OwnMore
import Derived.Deep.OwnRows
import Derived.Tactics
import Derived.Lib.ConvBytes
import Derived.Laws.Slices
import Derived.WalkKit
import Derived.KernelRfl
import Derived.RowKit3
import Derived.Deep.LoopGhost
import Derived.Deep.QuietTactic
import Derived.BigQuiet
import Derived.WideLaws
import Derived.Deep.DeepCutAuto
import Derived.Deep.CutBlock
import Derived.Deep.RegionHeld3
import Derived.Laws.Rows
import Derived.Lib.AppendStr
import Derived.ArgAppend
import Derived.Laws.IdiomCopy
import Derived.OrdersHeld
import Derived.Laws.BitsLemmas
import Derived.RowKit
import Derived.Lib.SlicesCompact
import Derived.Maps.Own
import Derived.StringKeys
import Derived.Maps.OwnOps
import Derived.Maps.OwnSet
import Derived.Maps.Views
import Derived.Laws.AppendOwn
import Derived.Deep.DrawnRows
import Derived.Shelf.Sort.Plain
import Derived.Shelf.Slices.CompactS
import Derived.Shelf.Slices.In.SortNone
import Derived.RangeFuncBox
import Derived.RangeFuncLeaves
import Derived.Shelf.Abstract
import Derived.OwnWalkIn
import Derived.TacticsInMore
import Derived.LoopNIn
import Derived.LoopIn
import Derived.Lib.OwnBridge
import Derived.Sort.OwnSorted
import Derived.Sort.Grow
import Derived.Shelf.Strings.OnBuilder
import Derived.Ground.NamesProg
import Derived.Ground.SlgfProg
import Derived.Sort.Walk0
import Derived.Lib.Strings
set_option linter.unusedVariables false
set_option linter.unusedSimpArgs false
namespace Go.Proofs.Ytghkbgmbbcaecaa.Q
open Go.RowKit Go.Proofs.YtghkbgmbbcaecaaW.PrintWords Go.Proofs.YtghkbgmbbcaecaaW.PrintLast Go.Proofs.YtghkbgmbbcaecaaW.PrintMore
attribute [local go_sem] run_field_23 run_field_24 run_field_31 run_field_32 run_field_35 run_field_36 isSome_setCell max2_int min2_int max_two min_two max_three min_three max_four min_four   -- for this text's walks alone
set_option linter.unusedVariables false
set_option linter.unusedSimpArgs false
attribute [local go_sem high] eqA62
mutual
def spec_l2Prefix.l0:Nat→Int→ByteArray→List (S62)→Option (ByteArray)
  | 0,_,_,_=>none
  | k+1,x1,x5,x270000=>if x1 > 0 then (spec_l2Prefix.j1 k x1 x5 (decide ((x5.size:Int)≤12)) x270000) else (spec_l2Prefix.j1 k x1 x5 false x270000)
def spec_l2Prefix.j1:Nat→Int→ByteArray→Bool→List (S62)→Option (ByteArray)
  | 0,_,_,_,_=>none
  | k+1,x1,x5,x13,x270000=>if x13=true then (if 0≤x1 then (if x1<(x270000.length:Int) then ((spec_l1In.f ((rT x270000 x1).f0) 0 25).bind fun t272=>(if t272=true then (if ((rT x270000 x1).f1) ≥ x1 then (some (⟨#[63]⟩:ByteArray)) else ((some (([(wrap64 (97+((rT x270000 x1).f0))) % 256]:List Int):List Int)).bind fun y273=>(if (strOfNums y273).size+x5.size≤9223372036854775807 then (spec_l2Prefix.l0 k ((rT x270000 x1).f1) ((strOfNums y273) ++ x5) x270000) else (none)))) else (some (⟨#[63]⟩:ByteArray)))) else (none)) else (none)) else (if x1=0 then (some x5) else (some (⟨#[63]⟩:ByteArray)))
end
def spec_l2Prefix.f (k:Nat) (l0_0:List (S62)) (a1:Int):Option (ByteArray):=spec_l2Prefix.l0 k a1 (⟨#[]⟩:ByteArray) l0_0
set_option maxHeartbeats 8000000 in
set_option maxRecDepth 100000 in
theorem spec_l2Prefix.calls (k:Nat) (A0_0:Option Addr) (c0_0:Nat) (l0_0:List (S62)) (a1:Int) (r:ByteArray) (w:World) (hr0_0:Kd.C k62 w A0_0 l0_0.length l0_0) (hc0_0:l0_0.length≤c0_0) (h:spec_l2Prefix.f k l0_0 a1=some r) :
  Calls Try.prog 45 #[.agg #[.slice A0_0 l0_0.length c0_0],.int .i64 a1] w fun e w'=>e=.returned (.string r)∧Below w.heap.size w w':=by
 have hu24:=Try.underlying24
 have hu62:=Try.underlying62
 have HR0_0:=Zz.mk hr0_0
 have HC0_0:=Zz.mk hc0_0
 clear hr0_0 hc0_0
 have HB:=Zz.mk (Below.refl w.heap.size w)
 have H:(spec_l2Prefix.l0 k a1 (⟨#[]⟩:ByteArray) l0_0)=some r:=h
 clear h
 have H':=Zz.mk H
 clear H
 go_enter Try.func45,Try.ntmps45
 go_wp2_with (first|((with_reducible refine gate_dst (N:=2) rfl ?_);(try (refine gate_guard (by rfl) ?_;dsimp only));refine box_event ?hg (N:=2) ?hd (cs:=#[.slice A0_0 l0_0.length c0_0]) (t:=24) ?hr ?_;(case hd=>rfl);(case hg=>rfl);(case hr=>first|(go_simp;done)|(go_simp;rfl));intro gb269 hg w3 hbox hb;have n0_:=Zz.mk (qP (by repeat (first|(with_reducible first|exact HB.out|apply qA|apply qN|apply q1_)|exact HB.out)) hb);have n1_:=Zz.mk (hbox);have n2_:=Zz.mk ((by rw [hg];exact (qZ (by repeat (first|(with_reducible first|exact HB.out|apply qA|apply qN|apply q1_)|exact HB.out))):w.heap.size≤gb269));have n3_:=Zz.mk ((by rw [hg];exact (qZ (by repeat (first|(with_reducible first|exact HB.out|apply qA|apply qN|apply q1_)|exact HB.out))):w.heap.size≤gb269));clear HB;have HB:=n0_;have BK269:=n1_;have GW269:=n2_;have GE269:=n3_;clear n0_ n1_ n2_ n3_;clear hb hbox hg))
 go_loopg [1,5] k (fun kq v1 v5 w'=>∃ (x1_1:Int) (x5_1:ByteArray),v1=.int .i64 x1_1∧v5=.string x5_1∧Zz (spec_l2Prefix.l0 kq x1_1 x5_1 l0_0=some r)∧Zz (kq≤k)∧Zz (w'.heap[gb269]?=some (.cells #[(.slice A0_0 l0_0.length c0_0)] 24 (0,0)))∧Zz (Below w.heap.size w w'))
 case atStart=>exact ⟨(a1),((⟨#[]⟩:ByteArray)),(by first|rfl|(simp;done)|(simp [*];done)),(by first|rfl|(simp;done)|(simp [*];done)),H',⟨Nat.le_refl _⟩,⟨by (with_reducible repeat first|apply bN|apply bD|apply bA);exact BK269.out⟩,⟨by repeat (first|(with_reducible first|exact HB.out|apply qA|apply qN|apply q1_|refine qS ?_ GE269.out)|exact HB.out)⟩⟩
 case round =>
  clear H'
  try clear p2
  obtain ⟨x1_1,x5_1,rfl,rfl,HA,HK1,BK269,HB⟩:=hrel
  cases gk with
  | zero=>exact absurd HA.out (by simp [spec_l2Prefix.l0])
  | succ k1 =>
   have H:=HA.out
   clear HA
   simp only [spec_l2Prefix.l0] at H
   have HC4:=Zz.mk H
   clear H
   go_upto_region 2 with (fail)
   go_cut [13] (fun v13 wc=>∃ (kq:Nat) (x13_3:Bool),v13=.bool x13_3∧Zz (spec_l2Prefix.j1 kq x1_1 x5_1 x13_3 l0_0=some r)∧Zz (kq≤k1)∧Zz (wc.heap[gb269]?=some (.cells #[(.slice A0_0 l0_0.length c0_0)] 24 (0,0)))∧Zz (Below w.heap.size w wc))
   case first =>
    have H:=HC4.out
    clear HC4
    by_cases c5:x1_1 > 0
    ·rw [if_pos c5] at H
     have c5b0:decide (0<x1_1)=true:=decide_eq_true c5
     clear c5
     (first|rw [c5b0]|(simp only [i64_w,i32_w];rw [c5b0])|skip)
     have H':=Zz.mk H
     clear H
     go_wp2
     go_meet
     case rel=>exact ⟨_,(decide ((x5_1.size:Int)≤12)),(by first|rfl|(simp;done)|(simp [*];done)),H',⟨by have:=HK1.out;first|omega|exact Nat.le_refl _⟩,⟨by (with_reducible repeat first|apply bN|apply bD|apply bA);exact BK269.out⟩,⟨by repeat (first|(with_reducible first|exact HB.out|apply qA|apply qN|apply q1_|refine qS ?_ GE269.out)|exact HB.out)⟩⟩
    ·rw [if_neg c5] at H
     have c5b0:decide (0<x1_1)=false:=decide_eq_false c5
     clear c5
     (first|rw [c5b0]|(simp only [i64_w,i32_w];rw [c5b0])|skip)
     have H':=Zz.mk H
     clear H
     go_wp2
     go_meet
     case rel=>exact ⟨_,(false),(by first|rfl|(simp;done)|(simp [*];done)),H',⟨by have:=HK1.out;first|omega|exact Nat.le_refl _⟩,⟨by (with_reducible repeat first|apply bN|apply bD|apply bA);exact BK269.out⟩,⟨by repeat (first|(with_reducible first|exact HB.out|apply qA|apply qN|apply q1_|refine qS ?_ GE269.out)|exact HB.out)⟩⟩
   case rest =>
    clear HC4
    try clear p2
    try clear c4
    try clear c5
    try clear c5b0
    try clear p2
    obtain ⟨kq,x13_3,rfl,HA,HJ3,BK269,HB⟩:=hcut
    cases kq with
    | zero=>exact absurd HA.out (by simp [spec_l2Prefix.j1])
    | succ kj3 =>
     have H:=HA.out
     clear HA
     simp only [spec_l2Prefix.j1] at H
     by_cases c6:x13_3=true
     ·subst c6
      have H1:(if 0≤x1_1 then (if x1_1<(l0_0.length:Int) then ((spec_l1In.f ((rT l0_0 x1_1).f0) 0 25).bind fun t272=>(if t272=true then (if ((rT l0_0 x1_1).f1) ≥ x1_1 then (some (⟨#[63]⟩:ByteArray)) else ((some (([(wrap64 (97+((rT l0_0 x1_1).f0))) % 256]:List Int):List Int)).bind fun y273=>(if (strOfNums y273).size+x5_1.size≤9223372036854775807 then (spec_l2Prefix.l0 kj3 ((rT l0_0 x1_1).f1) ((strOfNums y273) ++ x5_1) l0_0) else (none)))) else (some (⟨#[63]⟩:ByteArray)))) else (none)) else (none))=some r:=by rw [if_pos rfl] at H;exact H
      clear H
      have H:=H1
      clear H1
      by_cases c7:0≤x1_1
      ·rw [if_pos c7] at H
       have c7b0:decide (0≤x1_1)=true:=decide_eq_true c7
       clear c7
       by_cases c8:x1_1<(l0_0.length:Int)
       ·rw [if_pos c8] at H
        have c8b0:decide (x1_1<(l0_0.length:Int))=true:=decide_eq_true c8
        clear c8
        replace H:=Option.bind_eq_some_iff.mp H
        obtain ⟨t272,A90,H⟩:=H
        replace H:(if t272=true then (if ((rT l0_0 x1_1).f1) ≥ x1_1 then (some (⟨#[63]⟩:ByteArray)) else ((some (([(wrap64 (97+((rT l0_0 x1_1).f0))) % 256]:List Int):List Int)).bind fun y273=>(if (strOfNums y273).size+x5_1.size≤9223372036854775807 then (spec_l2Prefix.l0 kj3 ((rT l0_0 x1_1).f1) ((strOfNums y273) ++ x5_1) l0_0) else (none)))) else (some (⟨#[63]⟩:ByteArray)))=some r:=H
        have A9:=Zz.mk A90
        clear A90
        by_cases c10:t272=true
        ·subst c10
         have H1:(if ((rT l0_0 x1_1).f1) ≥ x1_1 then (some (⟨#[63]⟩:ByteArray)) else ((some (([(wrap64 (97+((rT l0_0 x1_1).f0))) % 256]:List Int):List Int)).bind fun y273=>(if (strOfNums y273).size+x5_1.size≤9223372036854775807 then (spec_l2Prefix.l0 kj3 ((rT l0_0 x1_1).f1) ((strOfNums y273) ++ x5_1) l0_0) else (none))))=some r:=by rw [if_pos rfl] at H;exact H
         clear H
         have H:=H1
         clear H1
         by_cases c11:((rT l0_0 x1_1).f1) ≥ x1_1
         ·rw [if_pos c11] at H
          have c11b0:decide (x1_1≤((rT l0_0 x1_1).f1))=true:=decide_eq_true c11
          clear c11
          obtain rfl:=Option.some.inj H
          have hcz12_0:wc.cell? ⟨gb269,0,none⟩=some (.slice A0_0 l0_0.length c0_0):=(bC BK269.out 0).trans rfl
          have hfz12_0:=bF BK269.out 0
          have p270:0≤(x1_1:Int):=of_decide_eq_true (by first|(with_reducible assumption)|assumption)
          have q270:x1_1<(l0_0.length:Int):=of_decide_eq_true (by first|(with_reducible assumption)|assumption)
          obtain ⟨ad270,e270,hx270_0,hx270_1,hx270_2⟩:=at_T62 HR0_0.out x1_1 p270 q270
          cases e270
          replace hx270_0:=(HB.out.cell (World.block_lt_of_cell? w _ hx270_0)).trans hx270_0
          replace hx270_1:=(HB.out.cell (World.block_lt_of_cell? w _ hx270_1)).trans hx270_1
          replace hx270_2:=(HB.out.cell (World.block_lt_of_cell? w _ hx270_2)).trans hx270_2
          replace p270:=eq_true p270
          replace q270:=eq_true q270
          go_wp2_with (first|((with_reducible refine gate_dst (N:=6) rfl ?_);(try (refine gate_guard (by rfl) ?_;dsimp only));refine box_event ?hg (N:=6) ?hd (cs:=#[.int .i64 0,.int .i64 0,.bool false]) (t:=62) ?hr ?_;(case hd=>rfl);(case hg=>rfl);(case hr=>first|(go_simp;done)|(go_simp;rfl));intro gb271 hg w13 hbox hb;have n0_:=Zz.mk (bB (g:=gb269) (o:=.cells #[.slice (some ad270) l0_0.length c0_0] 24 (0,0)) (by (with_reducible repeat first|apply bN|apply bD|apply bA);exact BK269.out) hb);have n1_:=Zz.mk (qP (by repeat (first|(with_reducible first|exact HB.out|apply qA|apply qN|apply q1_|refine qS ?_ GE269.out)|exact HB.out)) hb);have n2_:=Zz.mk (hbox);have n3_:=Zz.mk ((by rw [hg];exact (qZ (by repeat (first|(with_reducible first|exact HB.out|apply qA|apply qN|apply q1_|refine qS ?_ GE269.out)|exact HB.out))):w.heap.size≤gb271));have n4_:=Zz.mk ((by rw [hg];exact (qZ (by repeat (first|(with_reducible first|exact HB.out|apply qA|apply qN|apply q1_|refine qS ?_ GE269.out)|exact HB.out))):w.heap.size≤gb271));have n5_:=Zz.mk ((by rw [hg];exact Nat.ne_of_lt (blk_lt (g:=gb269) (o:=.cells #[.slice (some ad270) l0_0.length c0_0] 24 (0,0)) (by (with_reducible repeat first|apply bN|apply bD|apply bA);exact BK269.out)):gb269 ≠ gb271));have n6_:=Zz.mk ((by rw [hg];exact Nat.ne_of_gt (blk_lt (g:=gb269) (o:=.cells #[.slice (some ad270) l0_0.length c0_0] 24 (0,0)) (by (with_reducible repeat first|apply bN|apply bD|apply bA);exact BK269.out)):gb271 ≠ gb269));clear BK269;clear HB;have BK269:=n0_;have HB:=n1_;have BK271:=n2_;have GW271:=n3_;have GE271:=n4_;have NB269_271:=n5_;have NB271_269:=n6_;clear n0_ n1_ n2_ n3_ n4_ n5_ n6_;clear hb hbox hg;have hnb14:=NB271_269.out;have hnc14:=NB269_271.out;have hcz15_0:w13.cell? ⟨gb271,0,none⟩=some (.int .i64 0):=(bC BK271.out 0).trans rfl;have hcz15_1:w13.cell? ⟨gb271,1,none⟩=some (.int .i64 0):=(bC BK271.out 1).trans rfl;have hcz15_2:w13.cell? ⟨gb271,2,none⟩=some (.bool false):=(bC BK271.out 2).trans rfl;have hfz15_0:=bF BK271.out 0;have hfz15_1:=bF BK271.out 1;have hfz15_2:=bF BK271.out 2)|((with_reducible refine gate_callee (f:=40) rfl ?_);refine goesL_ (some 21) rfl rfl Try.func40 (by kernel_rfl) rfl #[.int .i64 ((rT l0_0 x1_1).f0),.int .i64 0,.int .i64 25] rfl (by (try simp only [List.map_toArray,List.map_cons,List.map_nil]);first|done|rfl|(simp only [List.length_drop,List.length_take];rfl)) ?_;(with_reducible refine (spec_l1In.calls ((rT l0_0 x1_1).f0) 0 25 true _ A9.out).mono ?_);rintro e w' ⟨rfl,⟨nd,rfl⟩⟩;refine ⟨_,rfl,?_⟩))
          go_ret
          exact ⟨by first|rfl|(simp [errW_none,errW_some] <;> rfl)|(simp [*,errW_none,errW_some] <;> rfl),by repeat (first|(with_reducible first|exact HB.out|apply qA|apply qN|apply q1_|refine qS ?_ GE269.out|refine qS ?_ GE271.out)|exact HB.out)⟩
         ·rw [if_neg c11] at H
          have c11b0:decide (x1_1≤((rT l0_0 x1_1).f1))=false:=decide_eq_false c11
          clear c11
          obtain ⟨y273,hy273⟩:∃ y_:List Int,y_=(([(wrap64 (97+((rT l0_0 x1_1).f0))) % 256]:List Int)):=⟨_,rfl⟩
          replace H:(if (strOfNums y273).size+x5_1.size≤9223372036854775807 then (spec_l2Prefix.l0 kj3 ((rT l0_0 x1_1).f1) ((strOfNums y273) ++ x5_1) l0_0) else (none))=some r:=by first|(rw [hy273];with_reducible exact H)|(have H2_:=(Option.bind_some _ _).symm.trans H;rw [hy273];with_reducible exact H2_)|(have H2_:=(Option.bind_some _ _).symm.trans H;with_reducible exact H2_)|with_reducible exact H|(rw [hy273];exact H)|exact H
          have Ny273:=Zz.mk hy273
          clear hy273
          by_cases c16:(strOfNums y273).size+x5_1.size≤9223372036854775807
          ·rw [if_pos c16] at H
           have c16b0:=eq_true c16
           have c16b1:decide ((strOfNums y273).size+x5_1.size≤9223372036854775807)=true:=decide_eq_true c16
           try have c16b2:(9223372036854775807<(strOfNums y273).size+x5_1.size)=False:=eq_false (Nat.not_lt.2 c16)
           have H':=Zz.mk H
           clear H
           have hcz17_0:wc.cell? ⟨gb269,0,none⟩=some (.slice A0_0 l0_0.length c0_0):=(bC BK269.out 0).trans rfl
           have hfz17_0:=bF BK269.out 0
           have p270:0≤(x1_1:Int):=of_decide_eq_true (by first|(with_reducible assumption)|assumption)
           have q270:x1_1<(l0_0.length:Int):=of_decide_eq_true (by first|(with_reducible assumption)|assumption)
           obtain ⟨ad270,e270,hx270_0,hx270_1,hx270_2⟩:=at_T62 HR0_0.out x1_1 p270 q270
           cases e270
           replace hx270_0:=(HB.out.cell (World.block_lt_of_cell? w _ hx270_0)).trans hx270_0
           replace hx270_1:=(HB.out.cell (World.block_lt_of_cell? w _ hx270_1)).trans hx270_1
           replace hx270_2:=(HB.out.cell (World.block_lt_of_cell? w _ hx270_2)).trans hx270_2
           replace p270:=eq_true p270
           replace q270:=eq_true q270
           go_wp2_with (first|((with_reducible refine gate_dst (N:=6) rfl ?_);(try (refine gate_guard (by rfl) ?_;dsimp only));refine box_event ?hg (N:=6) ?hd (cs:=#[.int .i64 0,.int .i64 0,.bool false]) (t:=62) ?hr ?_;(case hd=>rfl);(case hg=>rfl);(case hr=>first|(go_simp;done)|(go_simp;rfl));intro gb271 hg w18 hbox hb;have n0_:=Zz.mk (bB (g:=gb269) (o:=.cells #[.slice (some ad270) l0_0.length c0_0] 24 (0,0)) (by (with_reducible repeat first|apply bN|apply bD|apply bA);exact BK269.out) hb);have n1_:=Zz.mk (qP (by repeat (first|(with_reducible first|exact HB.out|apply qA|apply qN|apply q1_|refine qS ?_ GE269.out)|exact HB.out)) hb);have n2_:=Zz.mk (hbox);have n3_:=Zz.mk ((by rw [hg];exact (qZ (by repeat (first|(with_reducible first|exact HB.out|apply qA|apply qN|apply q1_|refine qS ?_ GE269.out)|exact HB.out))):w.heap.size≤gb271));have n4_:=Zz.mk ((by rw [hg];exact (qZ (by repeat (first|(with_reducible first|exact HB.out|apply qA|apply qN|apply q1_|refine qS ?_ GE269.out)|exact HB.out))):w.heap.size≤gb271));have n5_:=Zz.mk ((by rw [hg];exact Nat.ne_of_lt (blk_lt (g:=gb269) (o:=.cells #[.slice (some ad270) l0_0.length c0_0] 24 (0,0)) (by (with_reducible repeat first|apply bN|apply bD|apply bA);exact BK269.out)):gb269 ≠ gb271));have n6_:=Zz.mk ((by rw [hg];exact Nat.ne_of_gt (blk_lt (g:=gb269) (o:=.cells #[.slice (some ad270) l0_0.length c0_0] 24 (0,0)) (by (with_reducible repeat first|apply bN|apply bD|apply bA);exact BK269.out)):gb271 ≠ gb269));clear BK269;clear HB;have BK269:=n0_;have HB:=n1_;have BK271:=n2_;have GW271:=n3_;have GE271:=n4_;have NB269_271:=n5_;have NB271_269:=n6_;clear n0_ n1_ n2_ n3_ n4_ n5_ n6_;clear hb hbox hg;have hnb19:=NB271_269.out;have hnc19:=NB269_271.out;have hcz20_0:w18.cell? ⟨gb271,0,none⟩=some (.int .i64 0):=(bC BK271.out 0).trans rfl;have hcz20_1:w18.cell? ⟨gb271,1,none⟩=some (.int .i64 0):=(bC BK271.out 1).trans rfl;have hcz20_2:w18.cell? ⟨gb271,2,none⟩=some (.bool false):=(bC BK271.out 2).trans rfl;have hfz20_0:=bF BK271.out 0;have hfz20_1:=bF BK271.out 1;have hfz20_2:=bF BK271.out 2)|((with_reducible refine gate_callee (f:=40) rfl ?_);refine goesL_ (some 21) rfl rfl Try.func40 (by kernel_rfl) rfl #[.int .i64 ((rT l0_0 x1_1).f0),.int .i64 0,.int .i64 25] rfl (by (try simp only [List.map_toArray,List.map_cons,List.map_nil]);first|done|rfl|(simp only [List.length_drop,List.length_take];rfl)) ?_;(with_reducible refine (spec_l1In.calls ((rT l0_0 x1_1).f0) 0 25 true _ A9.out).mono ?_);rintro e w' ⟨rfl,⟨nd,rfl⟩⟩;refine ⟨_,rfl,?_⟩)|((with_reducible refine gate_dst (N:=33) rfl ?_);(try (refine gate_guard (by rfl) ?_;dsimp only));refine Kd.R_lit (Kd.int .u8) _ 5 ?hg (N:=33) ?hd (xs:=([(wrap64 (97+((rT l0_0 x1_1).f0))) % 256]:List Int)) (inner:=[.int .u8 ((wrap64 (97+((rT l0_0 x1_1).f0))) % 256)]) (ok:=fun _=>True) (okp:=fun _=>True) ?hr ?hp (fun _ hk=>hk) trivial (Below.refl _ _) (Nat.le_refl _) (by simp) ?_;(case hd=>rfl);(case hg=>rfl);(case hr=>first|(go_simp;done)|(go_simp;rfl));(case hp=>exact (Reps.one (show Kd.M (Kd.int .u8) _ _ _ ((wrap64 (97+((rT l0_0 x1_1).f0))) % 256) [.int .u8 ((wrap64 (97+((rT l0_0 x1_1).f0))) % 256)] from rfl) (Reps.none _ _)));intro v274 w21 ho22 hb hg_ hnew_;clear hg_ hnew_;(first|rw [← Ny273.out] at ho22|(simp only [Int.reduceToNat] at ho22;rw [← Ny273.out] at ho22));have n0_:=Zz.mk (Kd.R_lower ho22 (qZ (by repeat (first|(with_reducible first|exact HB.out|apply qA|apply qN|apply q1_|refine qS ?_ GE269.out|refine qS ?_ GE271.out)|exact HB.out))));have n1_:=Zz.mk (bB (g:=gb269) (o:=.cells #[.slice (some ad270) l0_0.length c0_0] 24 (0,0)) (by (with_reducible repeat first|apply bN|apply bD|apply bA);refine blk_far ?_ NB269_271.out _;(with_reducible repeat first|apply bN|apply bD|apply bA);refine blk_far ?_ NB269_271.out _;(with_reducible repeat first|apply bN|apply bD|apply bA);refine blk_far ?_ NB269_271.out _;(with_reducible repeat first|apply bN|apply bD|apply bA);exact BK269.out) hb);have n2_:=Zz.mk (bB (g:=gb271) (o:=.cells #[.int .i64 ((rT l0_0 x1_1).f0),.int .i64 ((rT l0_0 x1_1).f1),.bool ((rT l0_0 x1_1).f2)] 62 (0,0)) (by (with_reducible repeat first|apply bN|apply bD|apply bA);refine blk_put (cs:=#[.int .i64 ((rT l0_0 x1_1).f0),.int .i64 ((rT l0_0 x1_1).f1),.bool false]) ?_ 2 _ rfl;(with_reducible repeat first|apply bN|apply bD|apply bA);refine blk_put (cs:=#[.int .i64 ((rT l0_0 x1_1).f0),.int .i64 0,.bool false]) ?_ 1 _ rfl;(with_reducible repeat first|apply bN|apply bD|apply bA);refine blk_put (cs:=#[.int .i64 0,.int .i64 0,.bool false]) ?_ 0 _ rfl;(with_reducible repeat first|apply bN|apply bD|apply bA);exact BK271.out) hb);have n3_:=Zz.mk (qP (by repeat (first|(with_reducible first|exact HB.out|apply qA|apply qN|apply q1_|refine qS ?_ GE269.out|refine qS ?_ GE271.out)|exact HB.out)) hb);clear BK269;clear BK271;clear HB;have HO275:=n0_;have BK269:=n1_;have BK271:=n2_;have HB:=n3_;clear n0_ n1_ n2_ n3_;clear hb ho22;have hcv23:=own_string (P:=Try.prog) Try.underlying83 Try.underlying5 Try.underlying9 (Kd.own_of_R HO275.out);have hcz24_0:w21.cell? ⟨gb271,0,none⟩=some (.int .i64 ((rT l0_0 x1_1).f0)):=(bC BK271.out 0).trans rfl;have hcz24_1:w21.cell? ⟨gb271,1,none⟩=some (.int .i64 ((rT l0_0 x1_1).f1)):=(bC BK271.out 1).trans rfl;have hcz24_2:w21.cell? ⟨gb271,2,none⟩=some (.bool ((rT l0_0 x1_1).f2)):=(bC BK271.out 2).trans rfl;have hfz24_0:=bF BK271.out 0;have hfz24_1:=bF BK271.out 1;have hfz24_2:=bF BK271.out 2))
           go_roundg kj3
           case measure=>have:=HK1.out;have:=HJ3.out;omega
           case rel=>exact ⟨((rT l0_0 x1_1).f1),((strOfNums y273) ++ x5_1),(by first|rfl|(simp;done)|(simp [*];done)),(by first|rfl|(simp;done)|(simp [*];done)),H',⟨by have:=HK1.out;have:=HJ3.out;omega⟩,⟨by (with_reducible repeat first|apply bN|apply bD|apply bA);exact BK269.out⟩,⟨by repeat (first|(with_reducible first|exact HB.out|apply qA|apply qN|apply q1_|refine qS ?_ GE269.out|refine qS ?_ GE271.out)|exact HB.out)⟩⟩
          ·rw [if_neg c16] at H
           exact absurd H (by simp)
        ·replace c10:=Bool.eq_false_iff.mpr c10
         subst c10
         have H1:(some (⟨#[63]⟩:ByteArray))=some r:=by rw [if_neg (show ¬ (false=true) by decide)] at H;exact H
         clear H
         have H:=H1
         clear H1
         obtain rfl:=Option.some.inj H
         have hcz25_0:wc.cell? ⟨gb269,0,none⟩=some (.slice A0_0 l0_0.length c0_0):=(bC BK269.out 0).trans rfl
         have hfz25_0:=bF BK269.out 0
         have p270:0≤(x1_1:Int):=of_decide_eq_true (by first|(with_reducible assumption)|assumption)
         have q270:x1_1<(l0_0.length:Int):=of_decide_eq_true (by first|(with_reducible assumption)|assumption)
         obtain ⟨ad270,e270,hx270_0,hx270_1,hx270_2⟩:=at_T62 HR0_0.out x1_1 p270 q270
         cases e270
         replace hx270_0:=(HB.out.cell (World.block_lt_of_cell? w _ hx270_0)).trans hx270_0
         replace hx270_1:=(HB.out.cell (World.block_lt_of_cell? w _ hx270_1)).trans hx270_1
         replace hx270_2:=(HB.out.cell (World.block_lt_of_cell? w _ hx270_2)).trans hx270_2
         replace p270:=eq_true p270
         replace q270:=eq_true q270
         go_wp2_with (first|((with_reducible refine gate_dst (N:=6) rfl ?_);(try (refine gate_guard (by rfl) ?_;dsimp only));refine box_event ?hg (N:=6) ?hd (cs:=#[.int .i64 0,.int .i64 0,.bool false]) (t:=62) ?hr ?_;(case hd=>rfl);(case hg=>rfl);(case hr=>first|(go_simp;done)|(go_simp;rfl));intro gb271 hg w26 hbox hb;have n0_:=Zz.mk (bB (g:=gb269) (o:=.cells #[.slice (some ad270) l0_0.length c0_0] 24 (0,0)) (by (with_reducible repeat first|apply bN|apply bD|apply bA);exact BK269.out) hb);have n1_:=Zz.mk (qP (by repeat (first|(with_reducible first|exact HB.out|apply qA|apply qN|apply q1_|refine qS ?_ GE269.out)|exact HB.out)) hb);have n2_:=Zz.mk (hbox);have n3_:=Zz.mk ((by rw [hg];exact (qZ (by repeat (first|(with_reducible first|exact HB.out|apply qA|apply qN|apply q1_|refine qS ?_ GE269.out)|exact HB.out))):w.heap.size≤gb271));have n4_:=Zz.mk ((by rw [hg];exact (qZ (by repeat (first|(with_reducible first|exact HB.out|apply qA|apply qN|apply q1_|refine qS ?_ GE269.out)|exact HB.out))):w.heap.size≤gb271));have n5_:=Zz.mk ((by rw [hg];exact Nat.ne_of_lt (blk_lt (g:=gb269) (o:=.cells #[.slice (some ad270) l0_0.length c0_0] 24 (0,0)) (by (with_reducible repeat first|apply bN|apply bD|apply bA);exact BK269.out)):gb269 ≠ gb271));have n6_:=Zz.mk ((by rw [hg];exact Nat.ne_of_gt (blk_lt (g:=gb269) (o:=.cells #[.slice (some ad270) l0_0.length c0_0] 24 (0,0)) (by (with_reducible repeat first|apply bN|apply bD|apply bA);exact BK269.out)):gb271 ≠ gb269));clear BK269;clear HB;have BK269:=n0_;have HB:=n1_;have BK271:=n2_;have GW271:=n3_;have GE271:=n4_;have NB269_271:=n5_;have NB271_269:=n6_;clear n0_ n1_ n2_ n3_ n4_ n5_ n6_;clear hb hbox hg;have hnb27:=NB271_269.out;have hnc27:=NB269_271.out;have hcz28_0:w26.cell? ⟨gb271,0,none⟩=some (.int .i64 0):=(bC BK271.out 0).trans rfl;have hcz28_1:w26.cell? ⟨gb271,1,none⟩=some (.int .i64 0):=(bC BK271.out 1).trans rfl;have hcz28_2:w26.cell? ⟨gb271,2,none⟩=some (.bool false):=(bC BK271.out 2).trans rfl;have hfz28_0:=bF BK271.out 0;have hfz28_1:=bF BK271.out 1;have hfz28_2:=bF BK271.out 2)|((with_reducible refine gate_callee (f:=40) rfl ?_);refine goesL_ (some 21) rfl rfl Try.func40 (by kernel_rfl) rfl #[.int .i64 ((rT l0_0 x1_1).f0),.int .i64 0,.int .i64 25] rfl (by (try simp only [List.map_toArray,List.map_cons,List.map_nil]);first|done|rfl|(simp only [List.length_drop,List.length_take];rfl)) ?_;(with_reducible refine (spec_l1In.calls ((rT l0_0 x1_1).f0) 0 25 false _ A9.out).mono ?_);rintro e w' ⟨rfl,⟨nd,rfl⟩⟩;refine ⟨_,rfl,?_⟩))
         go_ret
         exact ⟨by first|rfl|(simp [errW_none,errW_some] <;> rfl)|(simp [*,errW_none,errW_some] <;> rfl),by repeat (first|(with_reducible first|exact HB.out|apply qA|apply qN|apply q1_|refine qS ?_ GE269.out|refine qS ?_ GE271.out)|exact HB.out)⟩
       ·rw [if_neg c8] at H
        exact absurd H (by simp)
      ·rw [if_neg c7] at H
       exact absurd H (by simp)
     ·replace c6:=Bool.eq_false_iff.mpr c6
      subst c6
      have H1:(if x1_1=0 then (some x5_1) else (some (⟨#[63]⟩:ByteArray)))=some r:=by rw [if_neg (show ¬ (false=true) by decide)] at H;exact H
      clear H
      have H:=H1
      clear H1
      by_cases c29:x1_1=0
      ·rw [if_pos c29] at H
       have c29b0:(x1_1 == 0)=true:=beq_iff_eq.mpr c29
       have c29b1:(x1_1 != 0)=false:=bne_eq_false_iff_eq.mpr c29
       clear c29
       obtain rfl:=Option.some.inj H
       go_wp2
       go_ret
       exact ⟨by first|rfl|(simp [errW_none,errW_some] <;> rfl)|(simp [*,errW_none,errW_some] <;> rfl),by repeat (first|(with_reducible first|exact HB.out|apply qA|apply qN|apply q1_|refine qS ?_ GE269.out)|exact HB.out)⟩
      ·rw [if_neg c29] at H
       have c29b0:(x1_1 == 0)=false:=beq_eq_false_iff_ne.mpr c29
       have c29b1:(x1_1 != 0)=true:=bne_iff_ne.mpr c29
       obtain rfl:=Option.some.inj H
       go_wp2
       go_ret
       exact ⟨by first|rfl|(simp [errW_none,errW_some] <;> rfl)|(simp [*,errW_none,errW_some] <;> rfl),by repeat (first|(with_reducible first|exact HB.out|apply qA|apply qN|apply q1_|refine qS ?_ GE269.out)|exact HB.out)⟩
def spec_l2Words.l0:Nat→List ByteArray→Int→List (S62)→Option (List ByteArray)
 | 0,_,_,_=>none
 | k+1,x3,x4,x277000=>if x4<(x277000.length:Int) then (if 0≤x4 then (if (rT x277000 x4).f2=true then ((spec_l2Prefix.f k x277000 x4).bind fun t281=>(if x3.length<8796093022208 then (spec_l2Words.l0 k (x3 ++ [t281]) (wrap64 (x4+1)) x277000) else (none))) else (spec_l2Words.l0 k x3 (wrap64 (x4+1)) x277000)) else (none)) else (some x3)
def spec_l2Words.f (k:Nat) (l0_0:List (S62)):Option (List ByteArray):=spec_l2Words.l0 k (([]:List ByteArray)) 0 l0_0
set_option maxHeartbeats 8000000 in
set_option maxRecDepth 100000 in
theorem spec_l2Words.calls (k:Nat) (A0_0:Option Addr) (c0_0:Nat) (l0_0:List (S62)) (r:List ByteArray) (w:World) (hr0_0:Kd.C k62 w A0_0 l0_0.length l0_0) (hc0_0:l0_0.length≤c0_0) (h:spec_l2Words.f k l0_0=some r) :
  Calls Try.prog 41 #[.agg #[.slice A0_0 l0_0.length c0_0]] w fun e w'=>∃ v0_:Value,e=.returned (v0_)∧Kd.R Kd.string 9 w' w.heap.size (fun _=>True) v0_ r∧Below w.heap.size w w':=by
 have hu24:=Try.underlying24
 have HR0_0:=Zz.mk hr0_0
 have HC0_0:=Zz.mk hc0_0
 clear hr0_0 hc0_0
 have HB:=Zz.mk (Below.refl w.heap.size w)
 have H:(spec_l2Words.l0 k (([]:List ByteArray)) 0 l0_0)=some r:=h
 clear h
 obtain ⟨y277,hy277⟩:∃ y_:List ByteArray,y_=(([]:List ByteArray)):=⟨_,rfl⟩
 replace H:(spec_l2Words.l0 k y277 0 l0_0)=some r:=by first|(rw [hy277];with_reducible exact H)|(have H2_:=(Option.bind_some _ _).symm.trans H;rw [hy277];with_reducible exact H2_)|(have H2_:=(Option.bind_some _ _).symm.trans H;with_reducible exact H2_)|with_reducible exact H|(rw [hy277];exact H)|exact H
 have Ny277:=Zz.mk hy277
 clear hy277
 have H':=Zz.mk H
 clear H
 go_enter Try.func41,Try.ntmps41
 go_wp2_with (first|((with_reducible refine gate_dst (N:=1) rfl ?_);refine box_event ?hg (N:=1) ?hd (cs:=#[.slice A0_0 l0_0.length c0_0]) (t:=24) ?hr ?_;(case hd=>rfl);(case hg=>rfl);(case hr=>first|(go_simp;done)|(go_simp;rfl));intro gb276 hg w2 hbox hb;have n0_:=Zz.mk (qP (by repeat (first|(with_reducible first|exact HB.out|apply qA|apply qN|apply q1_)|exact HB.out)) hb);have n1_:=Zz.mk (hbox);have n2_:=Zz.mk ((by rw [hg];exact (qZ (by repeat (first|(with_reducible first|exact HB.out|apply qA|apply qN|apply q1_)|exact HB.out))):w.heap.size≤gb276));have n3_:=Zz.mk ((by rw [hg];exact (qZ (by repeat (first|(with_reducible first|exact HB.out|apply qA|apply qN|apply q1_)|exact HB.out))):w.heap.size≤gb276));clear HB;have HB:=n0_;have BK276:=n1_;have GW276:=n2_;have GE276:=n3_;clear n0_ n1_ n2_ n3_;clear hb hbox hg)|((with_reducible refine gate_dst (N:=5) rfl ?_);refine Kd.R_lit Kd.string _ 9 ?hg (N:=5) ?hd (xs:=([]:List ByteArray)) (inner:=[]) (ok:=fun _=>True) (okp:=fun _=>True) ?hr ?hp (fun _ hk=>hk) trivial (Below.refl _ _) (Nat.le_refl _) (by simp) ?_;(case hd=>rfl);(case hg=>rfl);(case hr=>first|(go_simp;done)|(go_simp;rfl));(case hp=>exact (Reps.none _ _));intro v278 w3 ho4 hb hg_ hnew_;clear hg_ hnew_;(first|rw [← Ny277.out] at ho4|(simp only [Int.reduceToNat] at ho4;rw [← Ny277.out] at ho4));have n0_:=Zz.mk (Kd.R_lower ho4 (qZ (by repeat (first|(with_reducible first|exact HB.out|apply qA|apply qN|apply q1_|refine qS ?_ GE276.out)|exact HB.out))));have n1_:=Zz.mk (bB (g:=gb276) (o:=.cells #[.slice A0_0 l0_0.length c0_0] 24 (0,0)) (by (with_reducible repeat first|apply bN|apply bD|apply bA);exact BK276.out) hb);have n2_:=Zz.mk (qP (by repeat (first|(with_reducible first|exact HB.out|apply qA|apply qN|apply q1_|refine qS ?_ GE276.out)|exact HB.out)) hb);clear BK276;clear HB;have HO279:=n0_;have BK276:=n1_;have HB:=n2_;clear n0_ n1_ n2_;clear hb ho4))
 go_loopg [3,4] k (fun kq v3 v4 w'=>∃ (x3_1:List ByteArray) (x4_1:Int),v4=.int .i64 x4_1∧Zz (spec_l2Words.l0 kq x3_1 x4_1 l0_0=some r)∧Zz (kq≤k)∧Zz (Kd.R Kd.string 9 w' w.heap.size (fun _=>True) v3 x3_1)∧Zz (w'.heap[gb276]?=some (.cells #[(.slice A0_0 l0_0.length c0_0)] 24 (0,0)))∧Zz (Below w.heap.size w w'))
 case atStart=>exact ⟨(y277),(0),(by first|rfl|(simp;done)|(simp [*];done)),H',⟨Nat.le_refl _⟩,⟨by (with_reducible repeat first|apply Kd.R_alloc|apply Kd.R_drewN|apply Kd.R_drew);exact HO279.out⟩,⟨by (with_reducible repeat first|apply bN|apply bD|apply bA);exact BK276.out⟩,⟨by repeat (first|(with_reducible first|exact HB.out|apply qA|apply qN|apply q1_|refine qS ?_ GE276.out)|exact HB.out)⟩⟩
 case round =>
  clear H'
  try clear p2
  try clear c4
  obtain ⟨x3_1,x4_1,rfl,HA,HK1,HO_3,BK276,HB⟩:=hrel
  cases gk with
  | zero=>exact absurd HA.out (by simp [spec_l2Words.l0])
  | succ k1 =>
   have H:=HA.out
   clear HA
   simp only [spec_l2Words.l0] at H
   by_cases c5:x4_1<(l0_0.length:Int)
   ·rw [if_pos c5] at H
    have c5b0:decide (x4_1<(l0_0.length:Int))=true:=decide_eq_true c5
    clear c5
    by_cases c6:0≤x4_1
    ·rw [if_pos c6] at H
     have c6b0:decide (0≤x4_1)=true:=decide_eq_true c6
     clear c6
     obtain ⟨bq7,hbq7⟩:∃ b_:Bool,b_=((rT l0_0 x4_1).f2):=⟨_,rfl⟩
     replace H:(if bq7=true then ((spec_l2Prefix.f k1 l0_0 x4_1).bind fun t281=>(if x3_1.length<8796093022208 then (spec_l2Words.l0 k1 (x3_1 ++ [t281]) (wrap64 (x4_1+1)) l0_0) else (none))) else (spec_l2Words.l0 k1 x3_1 (wrap64 (x4_1+1)) l0_0))=some r:=by rw [← hbq7] at H;exact H
     have Nbq7:=Zz.mk hbq7
     clear hbq7
     by_cases c8:bq7=true
     ·subst c8
      have H1:((spec_l2Prefix.f k1 l0_0 x4_1).bind fun t281=>(if x3_1.length<8796093022208 then (spec_l2Words.l0 k1 (x3_1 ++ [t281]) (wrap64 (x4_1+1)) l0_0) else (none)))=some r:=by rw [if_pos rfl] at H;exact H
      clear H
      have H:=H1
      clear H1
      replace H:=Option.bind_eq_some_iff.mp H
      obtain ⟨t281,A90,H⟩:=H
      replace H:(if x3_1.length<8796093022208 then (spec_l2Words.l0 k1 (x3_1 ++ [t281]) (wrap64 (x4_1+1)) l0_0) else (none))=some r:=H
      have A9:=Zz.mk A90
      clear A90
      by_cases c10:x3_1.length<8796093022208
      ·rw [if_pos c10] at H
       have LMc10:=Zz.mk c10
       clear c10
       obtain ⟨y282,hy282⟩:∃ y_:List ByteArray,y_=(x3_1 ++ [t281]):=⟨_,rfl⟩
       replace H:(spec_l2Words.l0 k1 y282 (wrap64 (x4_1+1)) l0_0)=some r:=by first|(rw [hy282];with_reducible exact H)|(have H2_:=(Option.bind_some _ _).symm.trans H;rw [hy282];with_reducible exact H2_)|(have H2_:=(Option.bind_some _ _).symm.trans H;with_reducible exact H2_)|with_reducible exact H|(rw [hy282];exact H)|exact H
       have Ny282:=Zz.mk hy282
       clear hy282
       have H':=Zz.mk H
       clear H
       have hcz11_0:wr.cell? ⟨gb276,0,none⟩=some (.slice A0_0 l0_0.length c0_0):=(bC BK276.out 0).trans rfl
       have hfz11_0:=bF BK276.out 0
       have p280:0≤(x4_1:Int):=of_decide_eq_true (by first|(with_reducible assumption)|assumption)
       have q280:x4_1<(l0_0.length:Int):=of_decide_eq_true (by first|(with_reducible assumption)|assumption)
       obtain ⟨ad280,e280,hx280_0,hx280_1,hx280_2⟩:=at_T62 HR0_0.out x4_1 p280 q280
       (try rw [← Nbq7.out] at hx280_2)
       cases e280
       replace hx280_0:=(HB.out.cell (World.block_lt_of_cell? w _ hx280_0)).trans hx280_0
       replace hx280_1:=(HB.out.cell (World.block_lt_of_cell? w _ hx280_1)).trans hx280_1
       replace hx280_2:=(HB.out.cell (World.block_lt_of_cell? w _ hx280_2)).trans hx280_2
       replace p280:=eq_true p280
       replace q280:=eq_true q280
       go_wp2_with (first|((with_reducible refine gate_callee (f:=45) rfl ?_);refine goesL_ (some 22) rfl rfl Try.func45 (by kernel_rfl) rfl #[.agg #[.slice (some ad280) l0_0.length c0_0],.int .i64 x4_1] rfl (by (try simp only [List.map_toArray,List.map_cons,List.map_nil]);first|done|rfl|(simp only [List.length_drop,List.length_take];rfl)) ?_;(with_reducible refine (spec_l2Prefix.calls k1 _ _ l0_0 x4_1 t281 _ ?side1 ?side2 A9.out).mono ?_);(case side1=>repeat (first|exact (Kd.C_below HR0_0.out HB.out)|(with_reducible refine Kd.C_alloc ?_ _)|(with_reducible refine Kd.C_drewN ?_ _)|(with_reducible refine Kd.C_drew ?_)));(case side2=>exact HC0_0.out);rintro e w12 ⟨rfl,hb⟩;refine ⟨_,rfl,?_⟩;have n0_:=Zz.mk (Kd.R_below (by (with_reducible repeat first|apply Kd.R_alloc|apply Kd.R_drewN|apply Kd.R_drew);exact HO_3.out) hb);have n1_:=Zz.mk (bB (g:=gb276) (o:=.cells #[.slice (some ad280) l0_0.length c0_0] 24 (0,0)) (by (with_reducible repeat first|apply bN|apply bD|apply bA);exact BK276.out) hb);have n2_:=Zz.mk (qP (by repeat (first|(with_reducible first|exact HB.out|apply qA|apply qN|apply q1_|refine qS ?_ GE276.out)|exact HB.out)) hb);clear HO_3;clear BK276;clear HB;have HO_3:=n0_;have BK276:=n1_;have HB:=n2_;clear n0_ n1_ n2_;(try clear hb);(try clear hb2);(try clear hk);(try clear hi))|((with_reducible refine gate_builtin (b:=.append) (xs:=#[.tmp 19,.tmp 23]) rfl ?_);at_builtin;refine Kd.R_append Kd.string (w0:=w) w.heap.size rfl (.tmp 19) (.tmp 23) 44 9 (.string ⟨#[]⟩) 16 rfl Try.underlying44 info9 rfl (by decide) (by omega) u3 x3_1 t281 [.string t281] (fun _=>True) (fun _=>False) rfl rfl ?aP (fun _ hk=>hk.elim) ?aF ?aO ?aB ?aS ?aL ?_;(case aP=>exact rfl);(case aB=>exact (by repeat (first|(with_reducible first|exact HB.out|apply qA|apply qN|apply q1_|refine qS ?_ GE276.out)|exact HB.out)));(case aF=>exact (fun _ _=>trivial));(case aO=>exact (by (with_reducible repeat first|apply Kd.R_alloc|apply Kd.R_drewN|apply Kd.R_drew);exact HO_3.out));(case aS=>exact (qZ (by repeat (first|(with_reducible first|exact HB.out|apply qA|apply qN|apply q1_|refine qS ?_ GE276.out)|exact HB.out))));(case aL=>have:=LMc10.out;omega);intro v283 w13 ho hb hg hat;rw [← Ny282.out] at ho;have n0_:=Zz.mk (blk_grown (g:=gb276) (o:=.cells #[.slice (some ad280) l0_0.length c0_0] 24 (0,0)) (by (with_reducible repeat first|apply bN|apply bD|apply bA);exact BK276.out) hg (Kd.R_ne HO_3.out BK276.out (by decide)));have n1_:=Zz.mk (hb);have n2_:=Zz.mk (ho);clear BK276;clear HB;clear HO_3;have BK276:=n0_;have HB:=n1_;have HO284:=n2_;clear n0_ n1_ n2_;clear ho hb hg hat))
       go_roundg k1
       case measure=>have:=HK1.out;omega
       case rel=>exact ⟨(y282),(wrap64 (x4_1+1)),(by first|rfl|(simp;done)|(simp [*];done)),H',⟨by have:=HK1.out;omega⟩,⟨by (with_reducible repeat first|apply Kd.R_alloc|apply Kd.R_drewN|apply Kd.R_drew);exact HO284.out⟩,⟨by (with_reducible repeat first|apply bN|apply bD|apply bA);exact BK276.out⟩,⟨by repeat (first|(with_reducible first|exact HB.out|apply qA|apply qN|apply q1_|refine qS ?_ GE276.out)|exact HB.out)⟩⟩
      ·rw [if_neg c10] at H
       exact absurd H (by simp)
     ·replace c8:=Bool.eq_false_iff.mpr c8
      subst c8
      have H1:(spec_l2Words.l0 k1 x3_1 (wrap64 (x4_1+1)) l0_0)=some r:=by rw [if_neg (show ¬ (false=true) by decide)] at H;exact H
      clear H
      have H:=H1
      clear H1
      have H':=Zz.mk H
      clear H
      have hcz14_0:wr.cell? ⟨gb276,0,none⟩=some (.slice A0_0 l0_0.length c0_0):=(bC BK276.out 0).trans rfl
      have hfz14_0:=bF BK276.out 0
      have p280:0≤(x4_1:Int):=of_decide_eq_true (by first|(with_reducible assumption)|assumption)
      have q280:x4_1<(l0_0.length:Int):=of_decide_eq_true (by first|(with_reducible assumption)|assumption)
      obtain ⟨ad280,e280,hx280_0,hx280_1,hx280_2⟩:=at_T62 HR0_0.out x4_1 p280 q280
      (try rw [← Nbq7.out] at hx280_2)
      cases e280
      replace hx280_0:=(HB.out.cell (World.block_lt_of_cell? w _ hx280_0)).trans hx280_0
      replace hx280_1:=(HB.out.cell (World.block_lt_of_cell? w _ hx280_1)).trans hx280_1
      replace hx280_2:=(HB.out.cell (World.block_lt_of_cell? w _ hx280_2)).trans hx280_2
      replace p280:=eq_true p280
      replace q280:=eq_true q280
      go_wp2
      go_roundg k1
      case measure=>have:=HK1.out;omega
      case rel=>exact ⟨(x3_1),(wrap64 (x4_1+1)),(by first|rfl|(simp;done)|(simp [*];done)),H',⟨by have:=HK1.out;omega⟩,⟨by (with_reducible repeat first|apply Kd.R_alloc|apply Kd.R_drewN|apply Kd.R_drew);exact HO_3.out⟩,⟨by (with_reducible repeat first|apply bN|apply bD|apply bA);exact BK276.out⟩,⟨by repeat (first|(with_reducible first|exact HB.out|apply qA|apply qN|apply q1_|refine qS ?_ GE276.out)|exact HB.out)⟩⟩
    ·rw [if_neg c6] at H
     exact absurd H (by simp)
   ·rw [if_neg c5] at H
    have c5b0:decide (x4_1<(l0_0.length:Int))=false:=decide_eq_false c5
    clear c5
    obtain rfl:=Option.some.inj H
    have hcz15_0:wr.cell? ⟨gb276,0,none⟩=some (.slice A0_0 l0_0.length c0_0):=(bC BK276.out 0).trans rfl
    have hfz15_0:=bF BK276.out 0
    go_wp2
    go_ret
    exact ⟨_,by first|rfl|(simp [errW_none,errW_some] <;> rfl)|(simp [*,errW_none,errW_some] <;> rfl),by (with_reducible repeat first|apply Kd.R_alloc|apply Kd.R_drewN|apply Kd.R_drew);exact HO_3.out,by repeat (first|(with_reducible first|exact HB.out|apply qA|apply qN|apply q1_|refine qS ?_ GE276.out)|exact HB.out)⟩
mutual
def spec_l2Same.l0:Nat→Int→List (S62)→List (S62)→Option (Bool)
 | 0,_,_,_=>none
 | k+1,x5,x286000,x287000=>if x5<(x286000.length:Int) then (spec_l2Same.j1 k x5 (decide (x5<(x287000.length:Int))) x286000 x287000) else (spec_l2Same.j1 k x5 false x286000 x287000)
def spec_l2Same.j1:Nat→Int→Bool→List (S62)→List (S62)→Option (Bool)
 | 0,_,_,_,_=>none
 | k+1,x5,x17,x286000,x287000=>if x17=true then (if 0≤x5 then (if x5<(x286000.length:Int) then (if x5<(x287000.length:Int) then (if (!(((rT x286000 x5).f0) == ((rT x287000 x5).f0)) || (!(((rT x286000 x5).f1) == ((rT x287000 x5).f1)) || (!(((rT x286000 x5).f2) == ((rT x287000 x5).f2)))))=true then (some false) else (spec_l2Same.l0 k (wrap64 (x5+1)) x286000 x287000)) else (none)) else (none)) else (none)) else (some ((x286000.length:Int) == (x287000.length:Int)))
end
def spec_l2Same.f (k:Nat) (l0_0:List (S62)) (l1_0:List (S62)):Option (Bool):=spec_l2Same.l0 k 0 l0_0 l1_0
set_option maxHeartbeats 8000000 in
set_option maxRecDepth 100000 in
theorem spec_l2Same.calls (k:Nat) (A0_0:Option Addr) (c0_0:Nat) (l0_0:List (S62)) (A1_0:Option Addr) (c1_0:Nat) (l1_0:List (S62)) (r:Bool) (w:World) (hr0_0:Kd.C k62 w A0_0 l0_0.length l0_0) (hc0_0:l0_0.length≤c0_0) (hr1_0:Kd.C k62 w A1_0 l1_0.length l1_0) (hc1_0:l1_0.length≤c1_0) (h:spec_l2Same.f k l0_0 l1_0=some r) :
  Calls Try.prog 42 #[.agg #[.slice A0_0 l0_0.length c0_0],.agg #[.slice A1_0 l1_0.length c1_0]] w fun e w'=>e=.returned (.bool r)∧Below w.heap.size w w':=by
 have hu24:=Try.underlying24
 have hu62:=Try.underlying62
 have HR0_0:=Zz.mk hr0_0
 have HC0_0:=Zz.mk hc0_0
 clear hr0_0 hc0_0
 have HR1_0:=Zz.mk hr1_0
 have HC1_0:=Zz.mk hc1_0
 clear hr1_0 hc1_0
 have HB:=Zz.mk (Below.refl w.heap.size w)
 have H:(spec_l2Same.l0 k 0 l0_0 l1_0)=some r:=h
 clear h
 have H':=Zz.mk H
 clear H
 go_enter Try.func42,Try.ntmps42
 go_wp2_with (first|((with_reducible refine gate_dst (N:=2) rfl ?_);(try (refine gate_guard (by rfl) ?_;dsimp only));refine box_event ?hg (N:=2) ?hd (cs:=#[.slice A0_0 l0_0.length c0_0]) (t:=24) ?hr ?_;(case hd=>rfl);(case hg=>rfl);(case hr=>first|(go_simp;done)|(go_simp;rfl));intro gb285 hg w3 hbox hb;have n0_:=Zz.mk (qP (by repeat (first|(with_reducible first|exact HB.out|apply qA|apply qN|apply q1_)|exact HB.out)) hb);have n1_:=Zz.mk (hbox);have n2_:=Zz.mk ((by rw [hg];exact (qZ (by repeat (first|(with_reducible first|exact HB.out|apply qA|apply qN|apply q1_)|exact HB.out))):w.heap.size≤gb285));have n3_:=Zz.mk ((by rw [hg];exact (qZ (by repeat (first|(with_reducible first|exact HB.out|apply qA|apply qN|apply q1_)|exact HB.out))):w.heap.size≤gb285));clear HB;have HB:=n0_;have BK285:=n1_;have GW285:=n2_;have GE285:=n3_;clear n0_ n1_ n2_ n3_;clear hb hbox hg)|((with_reducible refine gate_dst (N:=3) rfl ?_);(try (refine gate_guard (by rfl) ?_;dsimp only));refine box_event ?hg (N:=3) ?hd (cs:=#[.slice A1_0 l1_0.length c1_0]) (t:=24) ?hr ?_;(case hd=>rfl);(case hg=>rfl);(case hr=>first|(go_simp;done)|(go_simp;rfl));intro gb286 hg w4 hbox hb;have n0_:=Zz.mk (bB (g:=gb285) (o:=.cells #[.slice A0_0 l0_0.length c0_0] 24 (0,0)) (by (with_reducible repeat first|apply bN|apply bD|apply bA);exact BK285.out) hb);have n1_:=Zz.mk (qP (by repeat (first|(with_reducible first|exact HB.out|apply qA|apply qN|apply q1_|refine qS ?_ GE285.out)|exact HB.out)) hb);have n2_:=Zz.mk (hbox);have n3_:=Zz.mk ((by rw [hg];exact (qZ (by repeat (first|(with_reducible first|exact HB.out|apply qA|apply qN|apply q1_|refine qS ?_ GE285.out)|exact HB.out))):w.heap.size≤gb286));have n4_:=Zz.mk ((by rw [hg];exact (qZ (by repeat (first|(with_reducible first|exact HB.out|apply qA|apply qN|apply q1_|refine qS ?_ GE285.out)|exact HB.out))):w.heap.size≤gb286));have n5_:=Zz.mk ((by rw [hg];exact Nat.ne_of_lt (blk_lt (g:=gb285) (o:=.cells #[.slice A0_0 l0_0.length c0_0] 24 (0,0)) (by (with_reducible repeat first|apply bN|apply bD|apply bA);exact BK285.out)):gb285 ≠ gb286));have n6_:=Zz.mk ((by rw [hg];exact Nat.ne_of_gt (blk_lt (g:=gb285) (o:=.cells #[.slice A0_0 l0_0.length c0_0] 24 (0,0)) (by (with_reducible repeat first|apply bN|apply bD|apply bA);exact BK285.out)):gb286 ≠ gb285));clear BK285;clear HB;have BK285:=n0_;have HB:=n1_;have BK286:=n2_;have GW286:=n3_;have GE286:=n4_;have NB285_286:=n5_;have NB286_285:=n6_;clear n0_ n1_ n2_ n3_ n4_ n5_ n6_;clear hb hbox hg))
 repeat (go_quiet (first|((with_reducible refine gate_dst (N:=2) rfl ?_);(try (refine gate_guard (by rfl) ?_;dsimp only));refine box_event ?hg (N:=2) ?hd (cs:=#[.slice A0_0 l0_0.length c0_0]) (t:=24) ?hr ?_;(case hd=>rfl);(case hg=>rfl);(case hr=>first|(go_simp;done)|(go_simp;rfl));intro gb285 hg w3 hbox hb;have n0_:=Zz.mk (qP (by repeat (first|(with_reducible first|exact HB.out|apply qA|apply qN|apply q1_)|exact HB.out)) hb);have n1_:=Zz.mk (hbox);have n2_:=Zz.mk ((by rw [hg];exact (qZ (by repeat (first|(with_reducible first|exact HB.out|apply qA|apply qN|apply q1_)|exact HB.out))):w.heap.size≤gb285));have n3_:=Zz.mk ((by rw [hg];exact (qZ (by repeat (first|(with_reducible first|exact HB.out|apply qA|apply qN|apply q1_)|exact HB.out))):w.heap.size≤gb285));clear HB;have HB:=n0_;have BK285:=n1_;have GW285:=n2_;have GE285:=n3_;clear n0_ n1_ n2_ n3_;clear hb hbox hg)|((with_reducible refine gate_dst (N:=3) rfl ?_);(try (refine gate_guard (by rfl) ?_;dsimp only));refine box_event ?hg (N:=3) ?hd (cs:=#[.slice A1_0 l1_0.length c1_0]) (t:=24) ?hr ?_;(case hd=>rfl);(case hg=>rfl);(case hr=>first|(go_simp;done)|(go_simp;rfl));intro gb286 hg w4 hbox hb;have n0_:=Zz.mk (bB (g:=gb285) (o:=.cells #[.slice A0_0 l0_0.length c0_0] 24 (0,0)) (by (with_reducible repeat first|apply bN|apply bD|apply bA);exact BK285.out) hb);have n1_:=Zz.mk (qP (by repeat (first|(with_reducible first|exact HB.out|apply qA|apply qN|apply q1_|refine qS ?_ GE285.out)|exact HB.out)) hb);have n2_:=Zz.mk (hbox);have n3_:=Zz.mk ((by rw [hg];exact (qZ (by repeat (first|(with_reducible first|exact HB.out|apply qA|apply qN|apply q1_|refine qS ?_ GE285.out)|exact HB.out))):w.heap.size≤gb286));have n4_:=Zz.mk ((by rw [hg];exact (qZ (by repeat (first|(with_reducible first|exact HB.out|apply qA|apply qN|apply q1_|refine qS ?_ GE285.out)|exact HB.out))):w.heap.size≤gb286));have n5_:=Zz.mk ((by rw [hg];exact Nat.ne_of_lt (blk_lt (g:=gb285) (o:=.cells #[.slice A0_0 l0_0.length c0_0] 24 (0,0)) (by (with_reducible repeat first|apply bN|apply bD|apply bA);exact BK285.out)):gb285 ≠ gb286));have n6_:=Zz.mk ((by rw [hg];exact Nat.ne_of_gt (blk_lt (g:=gb285) (o:=.cells #[.slice A0_0 l0_0.length c0_0] 24 (0,0)) (by (with_reducible repeat first|apply bN|apply bD|apply bA);exact BK285.out)):gb286 ≠ gb285));clear BK285;clear HB;have BK285:=n0_;have HB:=n1_;have BK286:=n2_;have GW286:=n3_;have GE286:=n4_;have NB285_286:=n5_;have NB286_285:=n6_;clear n0_ n1_ n2_ n3_ n4_ n5_ n6_;clear hb hbox hg));try go_wp2_with (first|((with_reducible refine gate_dst (N:=2) rfl ?_);(try (refine gate_guard (by rfl) ?_;dsimp only));refine box_event ?hg (N:=2) ?hd (cs:=#[.slice A0_0 l0_0.length c0_0]) (t:=24) ?hr ?_;(case hd=>rfl);(case hg=>rfl);(case hr=>first|(go_simp;done)|(go_simp;rfl));intro gb285 hg w3 hbox hb;have n0_:=Zz.mk (qP (by repeat (first|(with_reducible first|exact HB.out|apply qA|apply qN|apply q1_)|exact HB.out)) hb);have n1_:=Zz.mk (hbox);have n2_:=Zz.mk ((by rw [hg];exact (qZ (by repeat (first|(with_reducible first|exact HB.out|apply qA|apply qN|apply q1_)|exact HB.out))):w.heap.size≤gb285));have n3_:=Zz.mk ((by rw [hg];exact (qZ (by repeat (first|(with_reducible first|exact HB.out|apply qA|apply qN|apply q1_)|exact HB.out))):w.heap.size≤gb285));clear HB;have HB:=n0_;have BK285:=n1_;have GW285:=n2_;have GE285:=n3_;clear n0_ n1_ n2_ n3_;clear hb hbox hg)|((with_reducible refine gate_dst (N:=3) rfl ?_);(try (refine gate_guard (by rfl) ?_;dsimp only));refine box_event ?hg (N:=3) ?hd (cs:=#[.slice A1_0 l1_0.length c1_0]) (t:=24) ?hr ?_;(case hd=>rfl);(case hg=>rfl);(case hr=>first|(go_simp;done)|(go_simp;rfl));intro gb286 hg w4 hbox hb;have n0_:=Zz.mk (bB (g:=gb285) (o:=.cells #[.slice A0_0 l0_0.length c0_0] 24 (0,0)) (by (with_reducible repeat first|apply bN|apply bD|apply bA);exact BK285.out) hb);have n1_:=Zz.mk (qP (by repeat (first|(with_reducible first|exact HB.out|apply qA|apply qN|apply q1_|refine qS ?_ GE285.out)|exact HB.out)) hb);have n2_:=Zz.mk (hbox);have n3_:=Zz.mk ((by rw [hg];exact (qZ (by repeat (first|(with_reducible first|exact HB.out|apply qA|apply qN|apply q1_|refine qS ?_ GE285.out)|exact HB.out))):w.heap.size≤gb286));have n4_:=Zz.mk ((by rw [hg];exact (qZ (by repeat (first|(with_reducible first|exact HB.out|apply qA|apply qN|apply q1_|refine qS ?_ GE285.out)|exact HB.out))):w.heap.size≤gb286));have n5_:=Zz.mk ((by rw [hg];exact Nat.ne_of_lt (blk_lt (g:=gb285) (o:=.cells #[.slice A0_0 l0_0.length c0_0] 24 (0,0)) (by (with_reducible repeat first|apply bN|apply bD|apply bA);exact BK285.out)):gb285 ≠ gb286));have n6_:=Zz.mk ((by rw [hg];exact Nat.ne_of_gt (blk_lt (g:=gb285) (o:=.cells #[.slice A0_0 l0_0.length c0_0] 24 (0,0)) (by (with_reducible repeat first|apply bN|apply bD|apply bA);exact BK285.out)):gb286 ≠ gb285));clear BK285;clear HB;have BK285:=n0_;have HB:=n1_;have BK286:=n2_;have GW286:=n3_;have GE286:=n4_;have NB285_286:=n5_;have NB286_285:=n6_;clear n0_ n1_ n2_ n3_ n4_ n5_ n6_;clear hb hbox hg)))
 go_loopg [5] k (fun kq v5 w'=>∃ (x5_1:Int),v5=.int .i64 x5_1∧Zz (spec_l2Same.l0 kq x5_1 l0_0 l1_0=some r)∧Zz (kq≤k)∧Zz (w'.heap[gb285]?=some (.cells #[(.slice A0_0 l0_0.length c0_0)] 24 (0,0)))∧Zz (w'.heap[gb286]?=some (.cells #[(.slice A1_0 l1_0.length c1_0)] 24 (0,0)))∧Zz (Below w.heap.size w w'))
 case atStart=>exact ⟨(0),(by first|rfl|(simp;done)|(simp [*];done)),H',⟨Nat.le_refl _⟩,⟨by (with_reducible repeat first|apply bN|apply bD|apply bA);exact BK285.out⟩,⟨by (with_reducible repeat first|apply bN|apply bD|apply bA);exact BK286.out⟩,⟨by repeat (first|(with_reducible first|exact HB.out|apply qA|apply qN|apply q1_|refine qS ?_ GE285.out|refine qS ?_ GE286.out)|exact HB.out)⟩⟩
 case round =>
  clear H'
  try clear c1
  try clear p2
  try clear c4
  obtain ⟨x5_1,rfl,HA,HK1,BK285,BK286,HB⟩:=hrel
  cases gk with
  | zero=>exact absurd HA.out (by simp [spec_l2Same.l0])
  | succ k1 =>
   have H:=HA.out
   clear HA
   simp only [spec_l2Same.l0] at H
   have HC5:=Zz.mk H
   clear H
   go_upto_region 2 with (fail)
   repeat (go_quiet (fail);go_upto_region 2 with (fail))
   go_cut [17] (fun v17 wc=>∃ (kq:Nat) (x17_4:Bool),v17=.bool x17_4∧Zz (spec_l2Same.j1 kq x5_1 x17_4 l0_0 l1_0=some r)∧Zz (kq≤k1)∧Zz (wc.heap[gb285]?=some (.cells #[(.slice A0_0 l0_0.length c0_0)] 24 (0,0)))∧Zz (wc.heap[gb286]?=some (.cells #[(.slice A1_0 l1_0.length c1_0)] 24 (0,0)))∧Zz (Below w.heap.size w wc))
   case first =>
    have H:=HC5.out
    clear HC5
    by_cases c6:x5_1<(l0_0.length:Int)
    ·rw [if_pos c6] at H
     have c6b0:decide (x5_1<(l0_0.length:Int))=true:=decide_eq_true c6
     clear c6
     (first|rw [c6b0]|(simp only [i64_w,i32_w];rw [c6b0])|skip)
     have H':=Zz.mk H
     clear H
     have hnb7:=NB285_286.out
     have hnc7:=NB286_285.out
     have hcz8_0:wr.cell? ⟨gb285,0,none⟩=some (.slice A0_0 l0_0.length c0_0):=(bC BK285.out 0).trans rfl
     have hfz8_0:=bF BK285.out 0
     have hcz9_0:wr.cell? ⟨gb286,0,none⟩=some (.slice A1_0 l1_0.length c1_0):=(bC BK286.out 0).trans rfl
     have hfz9_0:=bF BK286.out 0
     go_wp2
     repeat (go_quiet (fail);try go_wp2)
     go_meet
     case rel=>exact ⟨_,(decide (x5_1<(l1_0.length:Int))),(by first|rfl|(simp;done)|(simp [*];done)),H',⟨by have:=HK1.out;first|omega|exact Nat.le_refl _⟩,⟨by (with_reducible repeat first|apply bN|apply bD|apply bA);exact BK285.out⟩,⟨by (with_reducible repeat first|apply bN|apply bD|apply bA);exact BK286.out⟩,⟨by repeat (first|(with_reducible first|exact HB.out|apply qA|apply qN|apply q1_|refine qS ?_ GE285.out|refine qS ?_ GE286.out)|exact HB.out)⟩⟩
    ·rw [if_neg c6] at H
     have c6b0:decide (x5_1<(l0_0.length:Int))=false:=decide_eq_false c6
     clear c6
     (first|rw [c6b0]|(simp only [i64_w,i32_w];rw [c6b0])|skip)
     have H':=Zz.mk H
     clear H
     have hnb10:=NB285_286.out
     have hnc10:=NB286_285.out
     have hcz11_0:wr.cell? ⟨gb285,0,none⟩=some (.slice A0_0 l0_0.length c0_0):=(bC BK285.out 0).trans rfl
     have hfz11_0:=bF BK285.out 0
     go_wp2
     repeat (go_quiet (fail);try go_wp2)
     go_meet
     case rel=>exact ⟨_,(false),(by first|rfl|(simp;done)|(simp [*];done)),H',⟨by have:=HK1.out;first|omega|exact Nat.le_refl _⟩,⟨by (with_reducible repeat first|apply bN|apply bD|apply bA);exact BK285.out⟩,⟨by (with_reducible repeat first|apply bN|apply bD|apply bA);exact BK286.out⟩,⟨by repeat (first|(with_reducible first|exact HB.out|apply qA|apply qN|apply q1_|refine qS ?_ GE285.out|refine qS ?_ GE286.out)|exact HB.out)⟩⟩
   case rest =>
    clear HC5
    try clear c1
    try clear p2
    try clear c4
    try clear c6
    try clear c6b0
    try clear c7
    try clear c10
    try clear hcz11_0
    try clear hcz8_0
    try clear hcz9_0
    try clear hfz11_0
    try clear hfz8_0
    try clear hfz9_0
    try clear p2
    obtain ⟨kq,x17_4,rfl,HA,HJ4,BK285,BK286,HB⟩:=hcut
    cases kq with
    | zero=>exact absurd HA.out (by simp [spec_l2Same.j1])
    | succ kj4 =>
     have H:=HA.out
     clear HA
     simp only [spec_l2Same.j1] at H
     by_cases c12:x17_4=true
     ·subst c12
      have H1:(if 0≤x5_1 then (if x5_1<(l0_0.length:Int) then (if x5_1<(l1_0.length:Int) then (if (!(((rT l0_0 x5_1).f0) == ((rT l1_0 x5_1).f0)) || (!(((rT l0_0 x5_1).f1) == ((rT l1_0 x5_1).f1)) || (!(((rT l0_0 x5_1).f2) == ((rT l1_0 x5_1).f2)))))=true then (some false) else (spec_l2Same.l0 kj4 (wrap64 (x5_1+1)) l0_0 l1_0)) else (none)) else (none)) else (none))=some r:=by rw [if_pos rfl] at H;exact H
      clear H
      have H:=H1
      clear H1
      by_cases c13:0≤x5_1
      ·rw [if_pos c13] at H
       have c13b0:decide (0≤x5_1)=true:=decide_eq_true c13
       clear c13
       by_cases c14:x5_1<(l0_0.length:Int)
       ·rw [if_pos c14] at H
        have c14b0:decide (x5_1<(l0_0.length:Int))=true:=decide_eq_true c14
        clear c14
        by_cases c15:x5_1<(l1_0.length:Int)
        ·rw [if_pos c15] at H
         have c15b0:decide (x5_1<(l1_0.length:Int))=true:=decide_eq_true c15
         clear c15
         by_cases c16:(!(((rT l0_0 x5_1).f0) == ((rT l1_0 x5_1).f0)) || (!(((rT l0_0 x5_1).f1) == ((rT l1_0 x5_1).f1)) || (!(((rT l0_0 x5_1).f2) == ((rT l1_0 x5_1).f2)))))=true
         ·rw [if_pos c16] at H
          have c16b0:(!(((rT l0_0 x5_1).f0) == ((rT l1_0 x5_1).f0)) || (!(((rT l0_0 x5_1).f1) == ((rT l1_0 x5_1).f1)) || (!(((rT l0_0 x5_1).f2) == ((rT l1_0 x5_1).f2)))))=true:=c16
          clear c16
          obtain rfl:=Option.some.inj H
          have hnb17:=NB285_286.out
          have hnc17:=NB286_285.out
          have hcz18_0:wc.cell? ⟨gb285,0,none⟩=some (.slice A0_0 l0_0.length c0_0):=(bC BK285.out 0).trans rfl
          have hfz18_0:=bF BK285.out 0
          have p287:0≤(x5_1:Int):=of_decide_eq_true (by first|(with_reducible assumption)|assumption)
          have q287:x5_1<(l0_0.length:Int):=of_decide_eq_true (by first|(with_reducible assumption)|assumption)
          obtain ⟨ad287,e287,hx287_0,hx287_1,hx287_2⟩:=at_T62 HR0_0.out x5_1 p287 q287
          cases e287
          replace hx287_0:=(HB.out.cell (World.block_lt_of_cell? w _ hx287_0)).trans hx287_0
          replace hx287_1:=(HB.out.cell (World.block_lt_of_cell? w _ hx287_1)).trans hx287_1
          replace hx287_2:=(HB.out.cell (World.block_lt_of_cell? w _ hx287_2)).trans hx287_2
          replace p287:=eq_true p287
          replace q287:=eq_true q287
          have hcz19_0:wc.cell? ⟨gb286,0,none⟩=some (.slice A1_0 l1_0.length c1_0):=(bC BK286.out 0).trans rfl
          have hfz19_0:=bF BK286.out 0
          have p288:0≤(x5_1:Int):=of_decide_eq_true (by first|(with_reducible assumption)|assumption)
          have q288:x5_1<(l1_0.length:Int):=of_decide_eq_true (by first|(with_reducible assumption)|assumption)
          obtain ⟨ad288,e288,hx288_0,hx288_1,hx288_2⟩:=at_T62 HR1_0.out x5_1 p288 q288
          cases e288
          replace hx288_0:=(HB.out.cell (World.block_lt_of_cell? w _ hx288_0)).trans hx288_0
          replace hx288_1:=(HB.out.cell (World.block_lt_of_cell? w _ hx288_1)).trans hx288_1
          replace hx288_2:=(HB.out.cell (World.block_lt_of_cell? w _ hx288_2)).trans hx288_2
          replace p288:=eq_true p288
          replace q288:=eq_true q288
          go_wp2
          repeat (go_quiet (fail);try go_wp2)
          go_ret
          exact ⟨by first|rfl|(simp [errW_none,errW_some] <;> rfl)|(simp [*,errW_none,errW_some] <;> rfl),by repeat (first|(with_reducible first|exact HB.out|apply qA|apply qN|apply q1_|refine qS ?_ GE285.out|refine qS ?_ GE286.out)|exact HB.out)⟩
         ·rw [if_neg c16] at H
          have c16b0:(!(((rT l0_0 x5_1).f0) == ((rT l1_0 x5_1).f0)) || (!(((rT l0_0 x5_1).f1) == ((rT l1_0 x5_1).f1)) || (!(((rT l0_0 x5_1).f2) == ((rT l1_0 x5_1).f2)))))=false:=by simpa using c16
          clear c16
          have H':=Zz.mk H
          clear H
          have hnb20:=NB285_286.out
          have hnc20:=NB286_285.out
          have hcz21_0:wc.cell? ⟨gb285,0,none⟩=some (.slice A0_0 l0_0.length c0_0):=(bC BK285.out 0).trans rfl
          have hfz21_0:=bF BK285.out 0
          have p287:0≤(x5_1:Int):=of_decide_eq_true (by first|(with_reducible assumption)|assumption)
          have q287:x5_1<(l0_0.length:Int):=of_decide_eq_true (by first|(with_reducible assumption)|assumption)
          obtain ⟨ad287,e287,hx287_0,hx287_1,hx287_2⟩:=at_T62 HR0_0.out x5_1 p287 q287
          cases e287
          replace hx287_0:=(HB.out.cell (World.block_lt_of_cell? w _ hx287_0)).trans hx287_0
          replace hx287_1:=(HB.out.cell (World.block_lt_of_cell? w _ hx287_1)).trans hx287_1
          replace hx287_2:=(HB.out.cell (World.block_lt_of_cell? w _ hx287_2)).trans hx287_2
          replace p287:=eq_true p287
          replace q287:=eq_true q287
          have hcz22_0:wc.cell? ⟨gb286,0,none⟩=some (.slice A1_0 l1_0.length c1_0):=(bC BK286.out 0).trans rfl
          have hfz22_0:=bF BK286.out 0
          have p288:0≤(x5_1:Int):=of_decide_eq_true (by first|(with_reducible assumption)|assumption)
          have q288:x5_1<(l1_0.length:Int):=of_decide_eq_true (by first|(with_reducible assumption)|assumption)
          obtain ⟨ad288,e288,hx288_0,hx288_1,hx288_2⟩:=at_T62 HR1_0.out x5_1 p288 q288
          cases e288
          replace hx288_0:=(HB.out.cell (World.block_lt_of_cell? w _ hx288_0)).trans hx288_0
          replace hx288_1:=(HB.out.cell (World.block_lt_of_cell? w _ hx288_1)).trans hx288_1
          replace hx288_2:=(HB.out.cell (World.block_lt_of_cell? w _ hx288_2)).trans hx288_2
          replace p288:=eq_true p288
          replace q288:=eq_true q288
          go_wp2
          repeat (go_quiet (fail);try go_wp2)
          go_roundg kj4
          case measure=>have:=HK1.out;have:=HJ4.out;omega
          case rel=>exact ⟨(wrap64 (x5_1+1)),(by first|rfl|(simp;done)|(simp [*];done)),H',⟨by have:=HK1.out;have:=HJ4.out;omega⟩,⟨by (with_reducible repeat first|apply bN|apply bD|apply bA);exact BK285.out⟩,⟨by (with_reducible repeat first|apply bN|apply bD|apply bA);exact BK286.out⟩,⟨by repeat (first|(with_reducible first|exact HB.out|apply qA|apply qN|apply q1_|refine qS ?_ GE285.out|refine qS ?_ GE286.out)|exact HB.out)⟩⟩
        ·rw [if_neg c15] at H
         exact absurd H (by simp)
       ·rw [if_neg c14] at H
        exact absurd H (by simp)
      ·rw [if_neg c13] at H
       exact absurd H (by simp)
     ·replace c12:=Bool.eq_false_iff.mpr c12
      subst c12
      have H1:(some ((l0_0.length:Int) == (l1_0.length:Int)))=some r:=by rw [if_neg (show ¬ (false=true) by decide)] at H;exact H
      clear H
      have H:=H1
      clear H1
      obtain rfl:=Option.some.inj H
      have hnb23:=NB285_286.out
      have hnc23:=NB286_285.out
      have hcz24_0:wc.cell? ⟨gb285,0,none⟩=some (.slice A0_0 l0_0.length c0_0):=(bC BK285.out 0).trans rfl
      have hfz24_0:=bF BK285.out 0
      have hcz25_0:wc.cell? ⟨gb286,0,none⟩=some (.slice A1_0 l1_0.length c1_0):=(bC BK286.out 0).trans rfl
      have hfz25_0:=bF BK286.out 0
      go_wp2
      repeat (go_quiet (fail);try go_wp2)
      go_ret
      exact ⟨by first|rfl|(simp [errW_none,errW_some] <;> rfl)|(simp [*,errW_none,errW_some] <;> rfl),by repeat (first|(with_reducible first|exact HB.out|apply qA|apply qN|apply q1_|refine qS ?_ GE285.out|refine qS ?_ GE286.out)|exact HB.out)⟩
end Go.Proofs.Ytghkbgmbbcaecaa.Q
namespace Go.Proofs.Ytghkbgmbbcaecaa.Q
open Go.RowKit Go.Proofs.YtghkbgmbbcaecaaW.PrintWords Go.Proofs.YtghkbgmbbcaecaaW.PrintLast Go.Proofs.YtghkbgmbbcaecaaW.PrintMore
attribute [local go_sem] run_field_23 run_field_24 run_field_31 run_field_32 run_field_35 run_field_36 isSome_setCell max2_int min2_int max_two min_two max_three min_three max_four min_four   -- for this text's walks alone
set_option linter.unusedVariables false
set_option linter.unusedSimpArgs false
def spec_l2Trie.f (k:Nat) (l0_0:List (S62)):Option (Bool):=(spec_l1In.f (l0_0.length:Int) 1 481).bind fun t290=>(if t290=true then ((spec_l2Words.f k l0_0).bind fun t291=>((spec_l2Set.f k t291).bind fun bt294=>(if bt294.2=true then ((spec_l2Of.f k bt294.1).bind fun t298=>((spec_l2Same.f k t298 l0_0).bind fun t301=>(some t301))) else (some false)))) else (some false))
def spec_l2Trie.T4:Bool × List (List Nat × List Nat):=(true,[([],[]),([0],[0]),([1],[1]),([2,1,1],[1,2]),([1],[1]),([3,4,3,1],[1,3,4]),([1,5],[1,5]),([6,5,0,1,2,3,4,5,6],[6])])
def spec_l2Trie.B4:List Nat:=[0,1,3,7,3,31,63,127]
theorem spec_l2Trie.tab4:rtab .any (opsOf Try.f24 4)=spec_l2Trie.T4:=by kernel_rfl
theorem spec_l2Trie.bits4:waitsOk spec_l2Trie.T4.2 spec_l2Trie.B4=true:=by kernel_rfl
set_option maxHeartbeats 8000000 in
set_option maxRecDepth 100000 in
theorem spec_l2Trie.calls (k:Nat) (A0_0:Option Addr) (c0_0:Nat) (l0_0:List (S62)) (r:Bool) (w:World) (hr0_0:Kd.C k62 w A0_0 l0_0.length l0_0) (hc0_0:l0_0.length≤c0_0) (h:spec_l2Trie.f k l0_0=some r) :
  Calls Try.prog 24 #[.agg #[.slice A0_0 l0_0.length c0_0]] w fun e w'=>e=.returned (.bool r)∧Below w.heap.size w w':=by
 have hu24:=Try.underlying24
 have HR0_0:=Zz.mk hr0_0
 have HC0_0:=Zz.mk hc0_0
 clear hr0_0 hc0_0
 have HB:=Zz.mk (Below.refl w.heap.size w)
 have H:((spec_l1In.f (l0_0.length:Int) 1 481).bind fun t290=>(if t290=true then ((spec_l2Words.f k l0_0).bind fun t291=>((spec_l2Set.f k t291).bind fun bt294=>(if bt294.2=true then ((spec_l2Of.f k bt294.1).bind fun t298=>((spec_l2Same.f k t298 l0_0).bind fun t301=>(some t301))) else (some false)))) else (some false)))=some r:=h
 clear h
 replace H:=Option.bind_eq_some_iff.mp H
 obtain ⟨t290,A20,H⟩:=H
 replace H:(if t290=true then ((spec_l2Words.f k l0_0).bind fun t291=>((spec_l2Set.f k t291).bind fun bt294=>(if bt294.2=true then ((spec_l2Of.f k bt294.1).bind fun t298=>((spec_l2Same.f k t298 l0_0).bind fun t301=>(some t301))) else (some false)))) else (some false))=some r:=H
 have A2:=Zz.mk A20
 clear A20
 by_cases c3:t290=true
 ·subst c3
  have H1:((spec_l2Words.f k l0_0).bind fun t291=>((spec_l2Set.f k t291).bind fun bt294=>(if bt294.2=true then ((spec_l2Of.f k bt294.1).bind fun t298=>((spec_l2Same.f k t298 l0_0).bind fun t301=>(some t301))) else (some false))))=some r:=by rw [if_pos rfl] at H;exact H
  clear H
  have H:=H1
  clear H1
  replace H:=Option.bind_eq_some_iff.mp H
  obtain ⟨t291,A40,H⟩:=H
  replace H:((spec_l2Set.f k t291).bind fun bt294=>(if bt294.2=true then ((spec_l2Of.f k bt294.1).bind fun t298=>((spec_l2Same.f k t298 l0_0).bind fun t301=>(some t301))) else (some false)))=some r:=H
  have A4:=Zz.mk A40
  clear A40
  replace H:=Option.bind_eq_some_iff.mp H
  obtain ⟨⟨t294,t297⟩,A50,H⟩:=H
  replace H:(if t297=true then ((spec_l2Of.f k t294).bind fun t298=>((spec_l2Same.f k t298 l0_0).bind fun t301=>(some t301))) else (some false))=some r:=H
  have A5:=Zz.mk A50
  clear A50
  by_cases c6:t297=true
  ·subst c6
   have H1:((spec_l2Of.f k t294).bind fun t298=>((spec_l2Same.f k t298 l0_0).bind fun t301=>(some t301)))=some r:=by rw [if_pos rfl] at H;exact H
   clear H
   have H:=H1
   clear H1
   replace H:=Option.bind_eq_some_iff.mp H
   obtain ⟨t298,A70,H⟩:=H
   replace H:((spec_l2Same.f k t298 l0_0).bind fun t301=>(some t301))=some r:=H
   have A7:=Zz.mk A70
   clear A70
   replace H:=Option.bind_eq_some_iff.mp H
   obtain ⟨t301,A80,H⟩:=H
   replace H:(some t301)=some r:=H
   have A8:=Zz.mk A80
   clear A80
   obtain rfl:=Option.some.inj H
   go_enter Try.func24,Try.ntmps24
   try go_wp2_with (first|((with_reducible refine gate_dst (N:=1) rfl ?_);refine box_event ?hg (N:=1) ?hd (cs:=#[.slice A0_0 l0_0.length c0_0]) (t:=24) ?hr ?_;(case hd=>rfl);(case hg=>rfl);(case hr=>first|(go_simp;done)|(go_simp;rfl));intro gb289 hg w9 hbox hb;have n0_:=Zz.mk (qP (by repeat (first|(with_reducible first|exact HB.out|apply qA|apply qN|apply q1_)|exact HB.out)) hb);have n1_:=Zz.mk (hbox);have n2_:=Zz.mk ((by rw [hg];exact (qZ (by repeat (first|(with_reducible first|exact HB.out|apply qA|apply qN|apply q1_)|exact HB.out))):w.heap.size≤gb289));have n3_:=Zz.mk ((by rw [hg];exact (qZ (by repeat (first|(with_reducible first|exact HB.out|apply qA|apply qN|apply q1_)|exact HB.out))):w.heap.size≤gb289));clear HB;have HB:=n0_;have BK289:=n1_;have GW289:=n2_;have GE289:=n3_;clear n0_ n1_ n2_ n3_;clear hb hbox hg;have hcz10_0:w9.cell? ⟨gb289,0,none⟩=some (.slice A0_0 l0_0.length c0_0):=(bC BK289.out 0).trans rfl;have hfz10_0:=bF BK289.out 0)|((with_reducible refine gate_callee (f:=40) rfl ?_);refine goesL_ (some 8) rfl rfl Try.func40 (by kernel_rfl) rfl #[.int .i64 (l0_0.length:Int),.int .i64 1,.int .i64 481] rfl (by (try simp only [List.map_toArray,List.map_cons,List.map_nil]);first|done|rfl|(simp only [List.length_drop,List.length_take];rfl)) ?_;(with_reducible refine (spec_l1In.calls (l0_0.length:Int) 1 481 true _ A2.out).mono ?_);rintro e w' ⟨rfl,⟨nd,rfl⟩⟩;refine ⟨_,rfl,?_⟩)|((with_reducible refine gate_callee (f:=41) rfl ?_);refine goesL_ (some 12) rfl rfl Try.func41 (by kernel_rfl) rfl #[.agg #[.slice A0_0 l0_0.length c0_0]] rfl (by (try simp only [List.map_toArray,List.map_cons,List.map_nil]);first|done|rfl|(simp only [List.length_drop,List.length_take];rfl)) ?_;(with_reducible refine (spec_l2Words.calls k _ _ l0_0 t291 _ ?side1 ?side2 A4.out).mono ?_);(case side1=>repeat (first|exact (Kd.C_below HR0_0.out (by repeat (first|(with_reducible first|exact HB.out|apply qA|apply qN|apply q1_|refine qS ?_ GE289.out)|exact HB.out)))|(with_reducible refine Kd.C_alloc ?_ _)|(with_reducible refine Kd.C_drewN ?_ _)|(with_reducible refine Kd.C_drew ?_)));(case side2=>exact HC0_0.out);rintro e w11 ⟨v292,rfl,ho0,hb⟩;refine ⟨_,rfl,?_⟩;have n0_:=Zz.mk (Kd.R_lower ho0 (qZ (by repeat (first|(with_reducible first|exact HB.out|apply qA|apply qN|apply q1_|refine qS ?_ GE289.out)|exact HB.out))));have n1_:=Zz.mk (bB (g:=gb289) (o:=.cells #[.slice A0_0 l0_0.length c0_0] 24 (0,0)) (by (with_reducible repeat first|apply bN|apply bD|apply bA);exact BK289.out) hb);have n2_:=Zz.mk (qP (by repeat (first|(with_reducible first|exact HB.out|apply qA|apply qN|apply q1_|refine qS ?_ GE289.out)|exact HB.out)) hb);clear BK289;clear HB;have HO293:=n0_;have BK289:=n1_;have HB:=n2_;clear n0_ n1_ n2_;(try clear hb);(try clear hb2);(try clear hk);(try clear hi);(try clear ho0);obtain ⟨Ao12,co12,eo12⟩:=Kd.R_slice HO293.out;subst eo12)|((with_reducible refine gate_callee (f:=32) rfl ?_);refine goesL_ (some 13) rfl rfl Try.func32 (by kernel_rfl) rfl #[.slice Ao12 t291.length co12] rfl (by (try simp only [List.map_toArray,List.map_cons,List.map_nil]);first|done|rfl|(simp only [List.length_drop,List.length_take];rfl)) ?_;(with_reducible refine (spec_l2Set.calls k _ _ t291 t294 true _ ?side1 ?side2 A5.out).mono ?_);(case side1=>repeat (first|exact (Kd.R_reads' HO293.out).2.2|(with_reducible refine Kd.C_alloc ?_ _)|(with_reducible refine Kd.C_drewN ?_ _)|(with_reducible refine Kd.C_drew ?_)));(case side2=>exact (Kd.R_reads' HO293.out).2.1);rintro e w13 ⟨v295,rfl,ho0,hb⟩;refine ⟨_,rfl,?_⟩;have n0_:=Zz.mk (Kd.R_below (by (with_reducible repeat first|apply Kd.R_alloc|apply Kd.R_drewN|apply Kd.R_drew);exact HO293.out) hb);have n1_:=Zz.mk (Kd.V_lower (Kd.V_mono (ok':=fun k_=>some k_ ≠ (.slice Ao12 t291.length co12:Value).ownBlock∧k_ ≠ gb289) ho0 (fun k_ hk_=>⟨(Kd.fresh' (Kd.R_lt (by (with_reducible repeat first|apply Kd.R_alloc|apply Kd.R_drewN|apply Kd.R_drew);exact HO293.out)) k_ hk_),(Kd.freshB (g:=gb289) (o:=.cells #[.slice A0_0 l0_0.length c0_0] 24 (0,0)) (by (with_reducible repeat first|apply bN|apply bD|apply bA);exact BK289.out) k_ hk_)⟩)) (qZ (by repeat (first|(with_reducible first|exact HB.out|apply qA|apply qN|apply q1_|refine qS ?_ GE289.out)|exact HB.out))));have n2_:=Zz.mk (bB (g:=gb289) (o:=.cells #[.slice A0_0 l0_0.length c0_0] 24 (0,0)) (by (with_reducible repeat first|apply bN|apply bD|apply bA);exact BK289.out) hb);have n3_:=Zz.mk (qP (by repeat (first|(with_reducible first|exact HB.out|apply qA|apply qN|apply q1_|refine qS ?_ GE289.out)|exact HB.out)) hb);clear HO293;clear BK289;clear HB;have HO293:=n0_;have HO296:=n1_;have BK289:=n2_;have HB:=n3_;clear n0_ n1_ n2_ n3_;(try clear hb);(try clear hb2);(try clear hk);(try clear hi);(try clear ho0)))
   have n0_:=Zz.mk (Kd.R_drew HO293.out)
   have n1_:=Zz.mk (Kd.V_drew HO296.out)
   have n2_:=Zz.mk (bD BK289.out)
   have n3_:=Zz.mk (q1_ HB.out)
   revert n0_ n1_ n2_ n3_
   clear HO293 HO296 BK289 HB
   intro HO293 HO296 BK289 HB
   obtain ⟨Ao15,co15,eo15⟩:=Kd.V_slice HO296.out
   (first|subst eo15|(injection eo15 with f1_ f2_ f3_;have f4_:=f1_.symm;have f5_:=f3_.symm;clear f1_ f2_ f3_;subst f4_;subst f5_))
   refine start_ (n:=8) (S:=fun w'=>w'.cell? ⟨gb289,0,none⟩=some (.slice A0_0 l0_0.length c0_0)) (ds:=[]) #[false,false,false,false,false,false,false,false] (by kernel_rfl) rfl rfl ((bC BK289.out 0).trans rfl) (fun hHeld=>?_);refine with_tabW spec_l2Trie.tab4 spec_l2Trie.bits4 (fun HT_ HW_=>?_)
   generalize w13.drew=w14 at HO293 HO296 BK289 HB hHeld ⊢
   refine pure_ (i:=0) (N:=some 16) (v:=?_) (a':=?_) #[true,false,false,false,false,false,false,false] rfl rfl (any_of HT_.out (by kernel_rfl)) (fun _ _ _ h=>h) (Or.inl ⟨by rfl,?_⟩) ?_ ?_
   rotate_left
   ·intro w'
    go_simp
    with_reducible rfl
   rotate_left
   ·simp only [Act.put,List.setIfInBounds_toArray,List.set_cons_zero,List.set_cons_succ,i64_w,i32_w]
    rfl
   refine pure_ (i:=1) (N:=some 17) (v:=?_) (a':=?_) #[true,true,false,false,false,false,false,false] rfl rfl (any_of HT_.out (by kernel_rfl)) (fun _ _ _ h=>h) (Or.inl ⟨by rfl,?_⟩) ?_ ?_
   rotate_left
   ·intro w'
    go_simp
    with_reducible rfl
   rotate_left
   ·simp only [Act.put,List.setIfInBounds_toArray,List.set_cons_zero,List.set_cons_succ,i64_w,i32_w]
    rfl
   refine pure_ (i:=2) (N:=some 18) (v:=?_) (a':=?_) #[true,true,true,false,false,false,false,false] rfl rfl (any_of HT_.out (by kernel_rfl)) (fun _ _ _ h=>h) (Or.inl ⟨by rfl,?_⟩) ?_ ?_
   rotate_left
   ·intro w'
    go_simp
    with_reducible rfl
   rotate_left
   ·simp only [Act.put,List.setIfInBounds_toArray,List.set_cons_zero,List.set_cons_succ,i64_w,i32_w]
    rfl
   refine take_ (i:=4) (N:=some 20) (v:=?_) (a':=?_) #[true,true,true,false,true,false,false,false] rfl rfl (take_ofW HT_.out HW_.out (by kernel_rfl)) (fun _ _ _ h=>h) (Or.inl ⟨by rfl,?_⟩) hHeld ?_ ?_
   rotate_left
   ·intro w' s0
    go_simp
    with_reducible rfl
   rotate_left
   ·simp only [Act.put,List.setIfInBounds_toArray,List.set_cons_zero,List.set_cons_succ,i64_w,i32_w]
    rfl
   refine one_ (i:=3) (N:=some 19) #[true,true,true,true,true,false,false,false] rfl rfl (one_of HT_.out (by kernel_rfl)) (by decide) (fun K hK=>?_)
   refine goes_ Try.func33 (by kernel_rfl) rfl #[.slice Ao15 t294.length co15] (by rfl) rfl rfl (by (try simp only [List.map_toArray,List.map_cons,List.map_nil]);first|done|rfl|(simp only [List.length_drop,List.length_take];rfl)) ?_
   with_reducible refine (spec_l2Of.calls k _ _ t294 t298 _ ?side1 ?side2 A7.out).mono ?_
   (case side1=>exact (Kd.V_reads' HO296.out).2.2)
   (case side2=>exact (Kd.V_reads' HO296.out).2.1)
   rintro e w16 ⟨v299,rfl,ho0,hb⟩
   refine ⟨_,rfl,?_⟩
   have n0_:=Zz.mk (Kd.R_below HO293.out hb)
   have n1_:=Zz.mk (Kd.V_elder' (by (with_reducible repeat (first|apply Kd.V_alloc|apply Kd.V_drewN|apply Kd.V_drew));exact HO296.out) (Kd.R_base ho0) hb)
   have n2_:=Zz.mk (Kd.R_lower ho0 (qZ HB.out))
   have n3_:=Zz.mk (bB BK289.out hb)
   have n4_:=Zz.mk (qP HB.out hb)
   revert n0_ n1_ n2_ n3_ n4_
   clear HO293 HO296 BK289 HB
   intro HO293 HO296 HO300 BK289 HB
   (try clear hb)
   (try clear hb2)
   (try clear hk)
   (try clear hi)
   (try clear ho0)
   obtain ⟨Ao17,co17,eo17⟩:=Kd.R_slice HO300.out
   (first|subst eo17|(injection eo17 with f1_ f2_ f3_;have f4_:=f1_.symm;have f5_:=f3_.symm;clear f1_ f2_ f3_;subst f4_;subst f5_))
   refine hK.out _ _ ((bC BK289.out 0).trans rfl) (fun hHeld=>?_)
   clear hK K
   refine norm_ (a':=?_) ?_ ?_
   rotate_left
   ·show Act.put _ (some 19) _=_
    simp only [Act.put,List.setIfInBounds_toArray,List.set_cons_zero,List.set_cons_succ,i64_w,i32_w]
    rfl
   refine one_ (i:=5) (N:=some 21) #[true,true,true,true,true,true,false,false] rfl rfl (one_of HT_.out (by kernel_rfl)) (by decide) (fun K hK=>?_)
   refine goes_ Try.func42 (by kernel_rfl) rfl #[.agg #[.slice Ao17 t298.length co17],.agg #[.slice A0_0 l0_0.length c0_0]] (by rfl) rfl rfl (by (try simp only [List.map_toArray,List.map_cons,List.map_nil]);first|done|rfl|(simp only [List.length_drop,List.length_take];rfl)) ?_
   with_reducible refine (spec_l2Same.calls k _ _ t298 _ _ l0_0 t301 _ ?side1 ?side2 ?side3 ?side4 A8.out).mono ?_
   (case side1=>exact (Kd.R_reads' HO300.out).2.2)
   (case side2=>exact (Kd.R_reads' HO300.out).2.1)
   (case side3=>exact (Kd.C_below HR0_0.out HB.out))
   (case side4=>exact HC0_0.out)
   rintro e w18 ⟨rfl,hb⟩
   refine ⟨_,rfl,?_⟩
   have n0_:=Zz.mk (Kd.R_below HO293.out hb)
   have n1_:=Zz.mk (Kd.V_below (by (with_reducible repeat (first|apply Kd.V_alloc|apply Kd.V_drewN|apply Kd.V_drew));exact HO296.out) hb)
   have n2_:=Zz.mk (Kd.R_below HO300.out hb)
   have n3_:=Zz.mk (bB BK289.out hb)
   have n4_:=Zz.mk (qP HB.out hb)
   revert n0_ n1_ n2_ n3_ n4_
   clear HO293 HO296 HO300 BK289 HB
   intro HO293 HO296 HO300 BK289 HB
   (try clear hb)
   (try clear hb2)
   (try clear hk)
   (try clear hi)
   refine hK.out _ _ ((bC BK289.out 0).trans rfl) (fun hHeld=>?_)
   clear hK K
   refine norm_ (a':=?_) ?_ ?_
   rotate_left
   ·show Act.put _ (some 21) _=_
    simp only [Act.put,List.setIfInBounds_toArray,List.set_cons_zero,List.set_cons_succ,i64_w,i32_w]
    rfl
   refine pure_ (i:=6) (N:=some 22) (v:=?_) (a':=?_) #[true,true,true,true,true,true,true,false] rfl rfl (any_of HT_.out (by kernel_rfl)) (fun _ _ _ h=>h) (Or.inl ⟨by rfl,?_⟩) ?_ ?_
   rotate_left
   ·intro w'
    go_simp
    with_reducible rfl
   rotate_left
   ·simp only [Act.put,List.setIfInBounds_toArray,List.set_cons_zero,List.set_cons_succ,i64_w,i32_w]
    rfl
   refine pure_ (i:=7) (N:=some 2) (v:=?_) (a':=?_) #[true,true,true,true,true,true,true,true] rfl rfl (any_of HT_.out (by kernel_rfl)) (fun _ _ _ h=>h) (Or.inl ⟨by rfl,?_⟩) ?_ ?_
   rotate_left
   ·intro w'
    go_simp
    with_reducible rfl
   rotate_left
   ·simp only [Act.put,List.setIfInBounds_toArray,List.set_cons_zero,List.set_cons_succ,i64_w,i32_w]
    rfl
   refine done_ (done_of HT_.out (by kernel_rfl)) ?_
   try go_wp2
   go_ret
   exact ⟨by first|rfl|(simp [errW_none,errW_some] <;> rfl)|(simp [*,errW_none,errW_some] <;> rfl),by repeat (first|(with_reducible first|exact HB.out|apply qA|apply qN|apply q1_|refine qS ?_ GE289.out)|exact HB.out)⟩
  ·replace c6:=Bool.eq_false_iff.mpr c6
   subst c6
   have H1:(some false)=some r:=by rw [if_neg (show ¬ (false=true) by decide)] at H;exact H
   clear H
   have H:=H1
   clear H1
   obtain rfl:=Option.some.inj H
   go_enter Try.func24,Try.ntmps24
   try go_wp2_with (first|((with_reducible refine gate_dst (N:=1) rfl ?_);refine box_event ?hg (N:=1) ?hd (cs:=#[.slice A0_0 l0_0.length c0_0]) (t:=24) ?hr ?_;(case hd=>rfl);(case hg=>rfl);(case hr=>first|(go_simp;done)|(go_simp;rfl));intro gb289 hg w19 hbox hb;have n0_:=Zz.mk (qP (by repeat (first|(with_reducible first|exact HB.out|apply qA|apply qN|apply q1_)|exact HB.out)) hb);have n1_:=Zz.mk (hbox);have n2_:=Zz.mk ((by rw [hg];exact (qZ (by repeat (first|(with_reducible first|exact HB.out|apply qA|apply qN|apply q1_)|exact HB.out))):w.heap.size≤gb289));have n3_:=Zz.mk ((by rw [hg];exact (qZ (by repeat (first|(with_reducible first|exact HB.out|apply qA|apply qN|apply q1_)|exact HB.out))):w.heap.size≤gb289));clear HB;have HB:=n0_;have BK289:=n1_;have GW289:=n2_;have GE289:=n3_;clear n0_ n1_ n2_ n3_;clear hb hbox hg;have hcz20_0:w19.cell? ⟨gb289,0,none⟩=some (.slice A0_0 l0_0.length c0_0):=(bC BK289.out 0).trans rfl;have hfz20_0:=bF BK289.out 0)|((with_reducible refine gate_callee (f:=40) rfl ?_);refine goesL_ (some 8) rfl rfl Try.func40 (by kernel_rfl) rfl #[.int .i64 (l0_0.length:Int),.int .i64 1,.int .i64 481] rfl (by (try simp only [List.map_toArray,List.map_cons,List.map_nil]);first|done|rfl|(simp only [List.length_drop,List.length_take];rfl)) ?_;(with_reducible refine (spec_l1In.calls (l0_0.length:Int) 1 481 true _ A2.out).mono ?_);rintro e w' ⟨rfl,⟨nd,rfl⟩⟩;refine ⟨_,rfl,?_⟩)|((with_reducible refine gate_callee (f:=41) rfl ?_);refine goesL_ (some 12) rfl rfl Try.func41 (by kernel_rfl) rfl #[.agg #[.slice A0_0 l0_0.length c0_0]] rfl (by (try simp only [List.map_toArray,List.map_cons,List.map_nil]);first|done|rfl|(simp only [List.length_drop,List.length_take];rfl)) ?_;(with_reducible refine (spec_l2Words.calls k _ _ l0_0 t291 _ ?side1 ?side2 A4.out).mono ?_);(case side1=>repeat (first|exact (Kd.C_below HR0_0.out (by repeat (first|(with_reducible first|exact HB.out|apply qA|apply qN|apply q1_|refine qS ?_ GE289.out)|exact HB.out)))|(with_reducible refine Kd.C_alloc ?_ _)|(with_reducible refine Kd.C_drewN ?_ _)|(with_reducible refine Kd.C_drew ?_)));(case side2=>exact HC0_0.out);rintro e w21 ⟨v292,rfl,ho0,hb⟩;refine ⟨_,rfl,?_⟩;have n0_:=Zz.mk (Kd.R_lower ho0 (qZ (by repeat (first|(with_reducible first|exact HB.out|apply qA|apply qN|apply q1_|refine qS ?_ GE289.out)|exact HB.out))));have n1_:=Zz.mk (bB (g:=gb289) (o:=.cells #[.slice A0_0 l0_0.length c0_0] 24 (0,0)) (by (with_reducible repeat first|apply bN|apply bD|apply bA);exact BK289.out) hb);have n2_:=Zz.mk (qP (by repeat (first|(with_reducible first|exact HB.out|apply qA|apply qN|apply q1_|refine qS ?_ GE289.out)|exact HB.out)) hb);clear BK289;clear HB;have HO293:=n0_;have BK289:=n1_;have HB:=n2_;clear n0_ n1_ n2_;(try clear hb);(try clear hb2);(try clear hk);(try clear hi);(try clear ho0);obtain ⟨Ao22,co22,eo22⟩:=Kd.R_slice HO293.out;subst eo22)|((with_reducible refine gate_callee (f:=32) rfl ?_);refine goesL_ (some 13) rfl rfl Try.func32 (by kernel_rfl) rfl #[.slice Ao22 t291.length co22] rfl (by (try simp only [List.map_toArray,List.map_cons,List.map_nil]);first|done|rfl|(simp only [List.length_drop,List.length_take];rfl)) ?_;(with_reducible refine (spec_l2Set.calls k _ _ t291 t294 false _ ?side1 ?side2 A5.out).mono ?_);(case side1=>repeat (first|exact (Kd.R_reads' HO293.out).2.2|(with_reducible refine Kd.C_alloc ?_ _)|(with_reducible refine Kd.C_drewN ?_ _)|(with_reducible refine Kd.C_drew ?_)));(case side2=>exact (Kd.R_reads' HO293.out).2.1);rintro e w23 ⟨v295,rfl,ho0,hb⟩;refine ⟨_,rfl,?_⟩;have n0_:=Zz.mk (Kd.R_below (by (with_reducible repeat first|apply Kd.R_alloc|apply Kd.R_drewN|apply Kd.R_drew);exact HO293.out) hb);have n1_:=Zz.mk (Kd.V_lower (Kd.V_mono (ok':=fun k_=>some k_ ≠ (.slice Ao22 t291.length co22:Value).ownBlock∧k_ ≠ gb289) ho0 (fun k_ hk_=>⟨(Kd.fresh' (Kd.R_lt (by (with_reducible repeat first|apply Kd.R_alloc|apply Kd.R_drewN|apply Kd.R_drew);exact HO293.out)) k_ hk_),(Kd.freshB (g:=gb289) (o:=.cells #[.slice A0_0 l0_0.length c0_0] 24 (0,0)) (by (with_reducible repeat first|apply bN|apply bD|apply bA);exact BK289.out) k_ hk_)⟩)) (qZ (by repeat (first|(with_reducible first|exact HB.out|apply qA|apply qN|apply q1_|refine qS ?_ GE289.out)|exact HB.out))));have n2_:=Zz.mk (bB (g:=gb289) (o:=.cells #[.slice A0_0 l0_0.length c0_0] 24 (0,0)) (by (with_reducible repeat first|apply bN|apply bD|apply bA);exact BK289.out) hb);have n3_:=Zz.mk (qP (by repeat (first|(with_reducible first|exact HB.out|apply qA|apply qN|apply q1_|refine qS ?_ GE289.out)|exact HB.out)) hb);clear HO293;clear BK289;clear HB;have HO293:=n0_;have HO296:=n1_;have BK289:=n2_;have HB:=n3_;clear n0_ n1_ n2_ n3_;(try clear hb);(try clear hb2);(try clear hk);(try clear hi);(try clear ho0)))
   have n0_:=Zz.mk (Kd.R_drew HO293.out)
   have n1_:=Zz.mk (Kd.V_drew HO296.out)
   have n2_:=Zz.mk (bD BK289.out)
   have n3_:=Zz.mk (q1_ HB.out)
   revert n0_ n1_ n2_ n3_
   clear HO293 HO296 BK289 HB
   intro HO293 HO296 BK289 HB
   refine start_ (n:=8) (S:=fun w'=>True) (ds:=[]) #[false,false,false,false,false,false,false,false] (by kernel_rfl) rfl rfl trivial (fun hHeld=>?_);refine with_tabW spec_l2Trie.tab4 spec_l2Trie.bits4 (fun HT_ HW_=>?_)
   generalize w23.drew=w24 at HO293 HO296 BK289 HB hHeld ⊢
   refine pure_ (i:=0) (N:=some 16) (v:=?_) (a':=?_) #[true,false,false,false,false,false,false,false] rfl rfl (any_of HT_.out (by kernel_rfl)) (fun _ _ _ h=>h) (Or.inl ⟨by rfl,?_⟩) ?_ ?_
   rotate_left
   ·intro w'
    go_simp
    with_reducible rfl
   rotate_left
   ·simp only [Act.put,List.setIfInBounds_toArray,List.set_cons_zero,List.set_cons_succ,i64_w,i32_w]
    rfl
   refine pure_ (i:=1) (N:=some 17) (v:=?_) (a':=?_) #[true,true,false,false,false,false,false,false] rfl rfl (any_of HT_.out (by kernel_rfl)) (fun _ _ _ h=>h) (Or.inl ⟨by rfl,?_⟩) ?_ ?_
   rotate_left
   ·intro w'
    go_simp
    with_reducible rfl
   rotate_left
   ·simp only [Act.put,List.setIfInBounds_toArray,List.set_cons_zero,List.set_cons_succ,i64_w,i32_w]
    rfl
   refine pure_ (i:=2) (N:=some 18) (v:=undef) (a':=?_) #[true,true,true,false,false,false,false,false] rfl rfl (any_of HT_.out (by kernel_rfl)) (fun _ _ _ h=>h) (Or.inr ⟨by rfl,rfl⟩) ?_ ?_
   rotate_left
   ·simp only [Act.put,List.setIfInBounds_toArray,List.set_cons_zero,List.set_cons_succ,i64_w,i32_w]
    rfl
   refine pure_ (i:=3) (N:=some 19) (v:=undef) (a':=?_) #[true,true,true,true,false,false,false,false] rfl rfl (any_of HT_.out (by kernel_rfl)) (fun _ _ _ h=>h) (Or.inr ⟨by rfl,rfl⟩) ?_ ?_
   rotate_left
   ·simp only [Act.put,List.setIfInBounds_toArray,List.set_cons_zero,List.set_cons_succ,i64_w,i32_w]
    rfl
   refine pure_ (i:=4) (N:=some 20) (v:=undef) (a':=?_) #[true,true,true,true,true,false,false,false] rfl rfl (any_of HT_.out (by kernel_rfl)) (fun _ _ _ h=>h) (Or.inr ⟨by rfl,rfl⟩) ?_ ?_
   rotate_left
   ·simp only [Act.put,List.setIfInBounds_toArray,List.set_cons_zero,List.set_cons_succ,i64_w,i32_w]
    rfl
   refine pure_ (i:=5) (N:=some 21) (v:=undef) (a':=?_) #[true,true,true,true,true,true,false,false] rfl rfl (any_of HT_.out (by kernel_rfl)) (fun _ _ _ h=>h) (Or.inr ⟨by rfl,rfl⟩) ?_ ?_
   rotate_left
   ·simp only [Act.put,List.setIfInBounds_toArray,List.set_cons_zero,List.set_cons_succ,i64_w,i32_w]
    rfl
   refine pure_ (i:=6) (N:=some 22) (v:=?_) (a':=?_) #[true,true,true,true,true,true,true,false] rfl rfl (any_of HT_.out (by kernel_rfl)) (fun _ _ _ h=>h) (Or.inl ⟨by rfl,?_⟩) ?_ ?_
   rotate_left
   ·intro w'
    go_simp
    with_reducible rfl
   rotate_left
   ·simp only [Act.put,List.setIfInBounds_toArray,List.set_cons_zero,List.set_cons_succ,i64_w,i32_w]
    rfl
   refine pure_ (i:=7) (N:=some 2) (v:=?_) (a':=?_) #[true,true,true,true,true,true,true,true] rfl rfl (any_of HT_.out (by kernel_rfl)) (fun _ _ _ h=>h) (Or.inl ⟨by rfl,?_⟩) ?_ ?_
   rotate_left
   ·intro w'
    go_simp
    with_reducible rfl
   rotate_left
   ·simp only [Act.put,List.setIfInBounds_toArray,List.set_cons_zero,List.set_cons_succ,i64_w,i32_w]
    rfl
   refine done_ (done_of HT_.out (by kernel_rfl)) ?_
   try go_wp2
   go_ret
   exact ⟨by first|rfl|(simp [errW_none,errW_some] <;> rfl)|(simp [*,errW_none,errW_some] <;> rfl),by repeat (first|(with_reducible first|exact HB.out|apply qA|apply qN|apply q1_|refine qS ?_ GE289.out)|exact HB.out)⟩
 ·replace c3:=Bool.eq_false_iff.mpr c3
  subst c3
  have H1:(some false)=some r:=by rw [if_neg (show ¬ (false=true) by decide)] at H;exact H
  clear H
  have H:=H1
  clear H1
  obtain rfl:=Option.some.inj H
  go_enter Try.func24,Try.ntmps24
  go_wp2_with (first|((with_reducible refine gate_dst (N:=1) rfl ?_);refine box_event ?hg (N:=1) ?hd (cs:=#[.slice A0_0 l0_0.length c0_0]) (t:=24) ?hr ?_;(case hd=>rfl);(case hg=>rfl);(case hr=>first|(go_simp;done)|(go_simp;rfl));intro gb289 hg w25 hbox hb;have n0_:=Zz.mk (qP (by repeat (first|(with_reducible first|exact HB.out|apply qA|apply qN|apply q1_)|exact HB.out)) hb);have n1_:=Zz.mk (hbox);have n2_:=Zz.mk ((by rw [hg];exact (qZ (by repeat (first|(with_reducible first|exact HB.out|apply qA|apply qN|apply q1_)|exact HB.out))):w.heap.size≤gb289));have n3_:=Zz.mk ((by rw [hg];exact (qZ (by repeat (first|(with_reducible first|exact HB.out|apply qA|apply qN|apply q1_)|exact HB.out))):w.heap.size≤gb289));clear HB;have HB:=n0_;have BK289:=n1_;have GW289:=n2_;have GE289:=n3_;clear n0_ n1_ n2_ n3_;clear hb hbox hg;have hcz26_0:w25.cell? ⟨gb289,0,none⟩=some (.slice A0_0 l0_0.length c0_0):=(bC BK289.out 0).trans rfl;have hfz26_0:=bF BK289.out 0)|((with_reducible refine gate_callee (f:=40) rfl ?_);refine goesL_ (some 8) rfl rfl Try.func40 (by kernel_rfl) rfl #[.int .i64 (l0_0.length:Int),.int .i64 1,.int .i64 481] rfl (by (try simp only [List.map_toArray,List.map_cons,List.map_nil]);first|done|rfl|(simp only [List.length_drop,List.length_take];rfl)) ?_;(with_reducible refine (spec_l1In.calls (l0_0.length:Int) 1 481 false _ A2.out).mono ?_);rintro e w' ⟨rfl,⟨nd,rfl⟩⟩;refine ⟨_,rfl,?_⟩))
  go_ret
  exact ⟨by first|rfl|(simp [errW_none,errW_some] <;> rfl)|(simp [*,errW_none,errW_some] <;> rfl),by repeat (first|(with_reducible first|exact HB.out|apply qA|apply qN|apply q1_|refine qS ?_ GE289.out)|exact HB.out)⟩
def spec_l2Kids.l0:Nat→Int→List Int→Int→List (S62)→Option (List Int)
 | 0,_,_,_,_=>none
 | k+1,x1,x5,x6,x303000=>if x6<(x303000.length:Int) then (if 0≤x6 then (if ((rT x303000 x6).f1)=x1 then (if x5.length<17592186044416 then (spec_l2Kids.l0 k x1 (x5 ++ [x6]) (wrap64 (x6+1)) x303000) else (none)) else (spec_l2Kids.l0 k x1 x5 (wrap64 (x6+1)) x303000)) else (none)) else (some x5)
def spec_l2Kids.f (k:Nat) (l0_0:List (S62)) (a1:Int):Option (List Int):=spec_l2Kids.l0 k a1 (([]:List Int)) (wrap64 (a1+1)) l0_0
set_option maxHeartbeats 8000000 in
set_option maxRecDepth 100000 in
theorem spec_l2Kids.calls (k:Nat) (A0_0:Option Addr) (c0_0:Nat) (l0_0:List (S62)) (a1:Int) (r:List Int) (w:World) (hr0_0:Kd.C k62 w A0_0 l0_0.length l0_0) (hc0_0:l0_0.length≤c0_0) (h:spec_l2Kids.f k l0_0 a1=some r) :
  Calls Try.prog 60 #[.agg #[.slice A0_0 l0_0.length c0_0],.int .i64 a1] w fun e w'=>∃ v0_:Value,e=.returned (v0_)∧Kd.R (Kd.int .i64) 3 w' w.heap.size (fun _=>True) v0_ r∧Below w.heap.size w w':=by
 have hu24:=Try.underlying24
 have HR0_0:=Zz.mk hr0_0
 have HC0_0:=Zz.mk hc0_0
 clear hr0_0 hc0_0
 have HB:=Zz.mk (Below.refl w.heap.size w)
 have H:(spec_l2Kids.l0 k a1 (([]:List Int)) (wrap64 (a1+1)) l0_0)=some r:=h
 clear h
 obtain ⟨y303,hy303⟩:∃ y_:List Int,y_=(([]:List Int)):=⟨_,rfl⟩
 replace H:(spec_l2Kids.l0 k a1 y303 (wrap64 (a1+1)) l0_0)=some r:=by first|(rw [hy303];with_reducible exact H)|(have H2_:=(Option.bind_some _ _).symm.trans H;rw [hy303];with_reducible exact H2_)|(have H2_:=(Option.bind_some _ _).symm.trans H;with_reducible exact H2_)|with_reducible exact H|(rw [hy303];exact H)|exact H
 have Ny303:=Zz.mk hy303
 clear hy303
 have H':=Zz.mk H
 clear H
 go_enter Try.func60,Try.ntmps60
 go_wp2_with (first|((with_reducible refine gate_dst (N:=2) rfl ?_);refine box_event ?hg (N:=2) ?hd (cs:=#[.slice A0_0 l0_0.length c0_0]) (t:=24) ?hr ?_;(case hd=>rfl);(case hg=>rfl);(case hr=>first|(go_simp;done)|(go_simp;rfl));intro gb302 hg w3 hbox hb;have n0_:=Zz.mk (qP (by repeat (first|(with_reducible first|exact HB.out|apply qA|apply qN|apply q1_)|exact HB.out)) hb);have n1_:=Zz.mk (hbox);have n2_:=Zz.mk ((by rw [hg];exact (qZ (by repeat (first|(with_reducible first|exact HB.out|apply qA|apply qN|apply q1_)|exact HB.out))):w.heap.size≤gb302));have n3_:=Zz.mk ((by rw [hg];exact (qZ (by repeat (first|(with_reducible first|exact HB.out|apply qA|apply qN|apply q1_)|exact HB.out))):w.heap.size≤gb302));clear HB;have HB:=n0_;have BK302:=n1_;have GW302:=n2_;have GE302:=n3_;clear n0_ n1_ n2_ n3_;clear hb hbox hg)|((with_reducible refine gate_dst (N:=7) rfl ?_);refine Kd.R_lit (Kd.int .i64) _ 3 ?hg (N:=7) ?hd (xs:=([]:List Int)) (inner:=[]) (ok:=fun _=>True) (okp:=fun _=>True) ?hr ?hp (fun _ hk=>hk) trivial (Below.refl _ _) (Nat.le_refl _) (by simp) ?_;(case hd=>rfl);(case hg=>rfl);(case hr=>first|(go_simp;done)|(go_simp;rfl));(case hp=>exact (Reps.none _ _));intro v304 w4 ho5 hb hg_ hnew_;clear hg_ hnew_;(first|rw [← Ny303.out] at ho5|(simp only [Int.reduceToNat] at ho5;rw [← Ny303.out] at ho5));have n0_:=Zz.mk (Kd.R_lower ho5 (qZ (by repeat (first|(with_reducible first|exact HB.out|apply qA|apply qN|apply q1_|refine qS ?_ GE302.out)|exact HB.out))));have n1_:=Zz.mk (bB (g:=gb302) (o:=.cells #[.slice A0_0 l0_0.length c0_0] 24 (0,0)) (by (with_reducible repeat first|apply bN|apply bD|apply bA);exact BK302.out) hb);have n2_:=Zz.mk (qP (by repeat (first|(with_reducible first|exact HB.out|apply qA|apply qN|apply q1_|refine qS ?_ GE302.out)|exact HB.out)) hb);clear BK302;clear HB;have HO305:=n0_;have BK302:=n1_;have HB:=n2_;clear n0_ n1_ n2_;clear hb ho5))
 go_loopg [5,6] k (fun kq v5 v6 w'=>∃ (x5_1:List Int) (x6_1:Int),v6=.int .i64 x6_1∧Zz (spec_l2Kids.l0 kq a1 x5_1 x6_1 l0_0=some r)∧Zz (kq≤k)∧Zz (Kd.R (Kd.int .i64) 3 w' w.heap.size (fun _=>True) v5 x5_1)∧Zz (w'.heap[gb302]?=some (.cells #[(.slice A0_0 l0_0.length c0_0)] 24 (0,0)))∧Zz (Below w.heap.size w w'))
 case atStart=>exact ⟨(y303),(wrap64 (a1+1)),(by first|rfl|(simp;done)|(simp [*];done)),H',⟨Nat.le_refl _⟩,⟨by (with_reducible repeat first|apply Kd.R_alloc|apply Kd.R_drewN|apply Kd.R_drew);exact HO305.out⟩,⟨by (with_reducible repeat first|apply bN|apply bD|apply bA);exact BK302.out⟩,⟨by repeat (first|(with_reducible first|exact HB.out|apply qA|apply qN|apply q1_|refine qS ?_ GE302.out)|exact HB.out)⟩⟩
 case round =>
  clear H'
  try clear p2
  obtain ⟨x5_1,x6_1,rfl,HA,HK1,HO_5,BK302,HB⟩:=hrel
  cases gk with
  | zero=>exact absurd HA.out (by simp [spec_l2Kids.l0])
  | succ k1 =>
   have H:=HA.out
   clear HA
   simp only [spec_l2Kids.l0] at H
   by_cases c6:x6_1<(l0_0.length:Int)
   ·rw [if_pos c6] at H
    have c6b0:decide (x6_1<(l0_0.length:Int))=true:=decide_eq_true c6
    clear c6
    by_cases c7:0≤x6_1
    ·rw [if_pos c7] at H
     have c7b0:decide (0≤x6_1)=true:=decide_eq_true c7
     clear c7
     by_cases c8:((rT l0_0 x6_1).f1)=a1
     ·rw [if_pos c8] at H
      have c8b0:(((rT l0_0 x6_1).f1) == a1)=true:=beq_iff_eq.mpr c8
      have c8b1:(((rT l0_0 x6_1).f1) != a1)=false:=bne_eq_false_iff_eq.mpr c8
      clear c8
      by_cases c9:x5_1.length<17592186044416
      ·rw [if_pos c9] at H
       have LMc9:=Zz.mk c9
       clear c9
       obtain ⟨y307,hy307⟩:∃ y_:List Int,y_=(x5_1 ++ [x6_1]):=⟨_,rfl⟩
       replace H:(spec_l2Kids.l0 k1 a1 y307 (wrap64 (x6_1+1)) l0_0)=some r:=by first|(rw [hy307];with_reducible exact H)|(have H2_:=(Option.bind_some _ _).symm.trans H;rw [hy307];with_reducible exact H2_)|(have H2_:=(Option.bind_some _ _).symm.trans H;with_reducible exact H2_)|with_reducible exact H|(rw [hy307];exact H)|exact H
       have Ny307:=Zz.mk hy307
       clear hy307
       have H':=Zz.mk H
       clear H
       have hcz10_0:wr.cell? ⟨gb302,0,none⟩=some (.slice A0_0 l0_0.length c0_0):=(bC BK302.out 0).trans rfl
       have hfz10_0:=bF BK302.out 0
       have p306:0≤(x6_1:Int):=of_decide_eq_true (by first|(with_reducible assumption)|assumption)
       have q306:x6_1<(l0_0.length:Int):=of_decide_eq_true (by first|(with_reducible assumption)|assumption)
       obtain ⟨ad306,e306,hx306_0,hx306_1,hx306_2⟩:=at_T62 HR0_0.out x6_1 p306 q306
       cases e306
       replace hx306_0:=(HB.out.cell (World.block_lt_of_cell? w _ hx306_0)).trans hx306_0
       replace hx306_1:=(HB.out.cell (World.block_lt_of_cell? w _ hx306_1)).trans hx306_1
       replace hx306_2:=(HB.out.cell (World.block_lt_of_cell? w _ hx306_2)).trans hx306_2
       replace p306:=eq_true p306
       replace q306:=eq_true q306
       go_wp2_with (first|((with_reducible refine gate_builtin (b:=.append) (xs:=#[.tmp 25,.tmp 27]) rfl ?_);at_builtin;refine Kd.R_append (Kd.int .i64) (w0:=w) w.heap.size rfl (.tmp 25) (.tmp 27) 43 3 (.int .i64 0) 8 rfl Try.underlying43 info3 rfl (by decide) (by omega) u5 x5_1 x6_1 [.int .i64 x6_1] (fun _=>True) (fun _=>False) rfl rfl ?aP (fun _ hk=>hk.elim) ?aF ?aO ?aB ?aS ?aL ?_;(case aP=>exact rfl);(case aB=>exact (by repeat (first|(with_reducible first|exact HB.out|apply qA|apply qN|apply q1_|refine qS ?_ GE302.out)|exact HB.out)));(case aF=>exact (fun _ _=>trivial));(case aO=>exact (by (with_reducible repeat first|apply Kd.R_alloc|apply Kd.R_drewN|apply Kd.R_drew);exact HO_5.out));(case aS=>exact (qZ (by repeat (first|(with_reducible first|exact HB.out|apply qA|apply qN|apply q1_|refine qS ?_ GE302.out)|exact HB.out))));(case aL=>have:=LMc9.out;omega);intro v308 w11 ho hb hg hat;rw [← Ny307.out] at ho;have n0_:=Zz.mk (blk_grown (g:=gb302) (o:=.cells #[.slice (some ad306) l0_0.length c0_0] 24 (0,0)) (by (with_reducible repeat first|apply bN|apply bD|apply bA);exact BK302.out) hg (Kd.R_ne HO_5.out BK302.out (by decide)));have n1_:=Zz.mk (hb);have n2_:=Zz.mk (ho);clear BK302;clear HB;clear HO_5;have BK302:=n0_;have HB:=n1_;have HO309:=n2_;clear n0_ n1_ n2_;clear ho hb hg hat))
       go_roundg k1
       case measure=>have:=HK1.out;omega
       case rel=>exact ⟨(y307),(wrap64 (x6_1+1)),(by first|rfl|(simp;done)|(simp [*];done)),H',⟨by have:=HK1.out;omega⟩,⟨by (with_reducible repeat first|apply Kd.R_alloc|apply Kd.R_drewN|apply Kd.R_drew);exact HO309.out⟩,⟨by (with_reducible repeat first|apply bN|apply bD|apply bA);exact BK302.out⟩,⟨by repeat (first|(with_reducible first|exact HB.out|apply qA|apply qN|apply q1_|refine qS ?_ GE302.out)|exact HB.out)⟩⟩
      ·rw [if_neg c9] at H
       exact absurd H (by simp)
     ·rw [if_neg c8] at H
      have c8b0:(((rT l0_0 x6_1).f1) == a1)=false:=beq_eq_false_iff_ne.mpr c8
      have c8b1:(((rT l0_0 x6_1).f1) != a1)=true:=bne_iff_ne.mpr c8
      have H':=Zz.mk H
      clear H
      have hcz12_0:wr.cell? ⟨gb302,0,none⟩=some (.slice A0_0 l0_0.length c0_0):=(bC BK302.out 0).trans rfl
      have hfz12_0:=bF BK302.out 0
      have p306:0≤(x6_1:Int):=of_decide_eq_true (by first|(with_reducible assumption)|assumption)
      have q306:x6_1<(l0_0.length:Int):=of_decide_eq_true (by first|(with_reducible assumption)|assumption)
      obtain ⟨ad306,e306,hx306_0,hx306_1,hx306_2⟩:=at_T62 HR0_0.out x6_1 p306 q306
      cases e306
      replace hx306_0:=(HB.out.cell (World.block_lt_of_cell? w _ hx306_0)).trans hx306_0
      replace hx306_1:=(HB.out.cell (World.block_lt_of_cell? w _ hx306_1)).trans hx306_1
      replace hx306_2:=(HB.out.cell (World.block_lt_of_cell? w _ hx306_2)).trans hx306_2
      replace p306:=eq_true p306
      replace q306:=eq_true q306
      go_wp2
      go_roundg k1
      case measure=>have:=HK1.out;omega
      case rel=>exact ⟨(x5_1),(wrap64 (x6_1+1)),(by first|rfl|(simp;done)|(simp [*];done)),H',⟨by have:=HK1.out;omega⟩,⟨by (with_reducible repeat first|apply Kd.R_alloc|apply Kd.R_drewN|apply Kd.R_drew);exact HO_5.out⟩,⟨by (with_reducible repeat first|apply bN|apply bD|apply bA);exact BK302.out⟩,⟨by repeat (first|(with_reducible first|exact HB.out|apply qA|apply qN|apply q1_|refine qS ?_ GE302.out)|exact HB.out)⟩⟩
    ·rw [if_neg c7] at H
     exact absurd H (by simp)
   ·rw [if_neg c6] at H
    have c6b0:decide (x6_1<(l0_0.length:Int))=false:=decide_eq_false c6
    clear c6
    obtain rfl:=Option.some.inj H
    have hcz13_0:wr.cell? ⟨gb302,0,none⟩=some (.slice A0_0 l0_0.length c0_0):=(bC BK302.out 0).trans rfl
    have hfz13_0:=bF BK302.out 0
    go_wp2
    go_ret
    exact ⟨_,by first|rfl|(simp [errW_none,errW_some] <;> rfl)|(simp [*,errW_none,errW_some] <;> rfl),by (with_reducible repeat first|apply Kd.R_alloc|apply Kd.R_drewN|apply Kd.R_drew);exact HO_5.out,by repeat (first|(with_reducible first|exact HB.out|apply qA|apply qN|apply q1_|refine qS ?_ GE302.out)|exact HB.out)⟩
def spec_l4Stays.f (k:Nat) (l0_0:List (S62)) (a1:Int):Option (Bool):=if a1=0 then (some true) else (if 0≤a1 then (if a1<(l0_0.length:Int) then (if (rT l0_0 a1).f2=true then (some true) else ((spec_l2Kids.f k l0_0 a1).bind fun t312=>(some ((t312.length:Int) != 1)))) else (none)) else (none))
set_option maxHeartbeats 8000000 in
set_option maxRecDepth 100000 in
theorem spec_l4Stays.calls (k:Nat) (A0_0:Option Addr) (c0_0:Nat) (l0_0:List (S62)) (a1:Int) (r:Bool) (w:World) (hr0_0:Kd.C k62 w A0_0 l0_0.length l0_0) (hc0_0:l0_0.length≤c0_0) (h:spec_l4Stays.f k l0_0 a1=some r) :
  Calls Try.prog 44 #[.agg #[.slice A0_0 l0_0.length c0_0],.int .i64 a1] w fun e w'=>e=.returned (.bool r)∧Below w.heap.size w w':=by
 have hu24:=Try.underlying24
 have HR0_0:=Zz.mk hr0_0
 have HC0_0:=Zz.mk hc0_0
 clear hr0_0 hc0_0
 have HB:=Zz.mk (Below.refl w.heap.size w)
 have H:(if a1=0 then (some true) else (if 0≤a1 then (if a1<(l0_0.length:Int) then (if (rT l0_0 a1).f2=true then (some true) else ((spec_l2Kids.f k l0_0 a1).bind fun t312=>(some ((t312.length:Int) != 1)))) else (none)) else (none)))=some r:=h
 clear h
 by_cases c3:a1=0
 ·rw [if_pos c3] at H
  have c3b0:(a1 == 0)=true:=beq_iff_eq.mpr c3
  have c3b1:(a1 != 0)=false:=bne_eq_false_iff_eq.mpr c3
  clear c3
  obtain rfl:=Option.some.inj H
  go_enter Try.func44,Try.ntmps44
  go_wp2_with (first|((with_reducible refine gate_dst (N:=2) rfl ?_);(try (refine gate_guard (by rfl) ?_;dsimp only));refine box_event ?hg (N:=2) ?hd (cs:=#[.slice A0_0 l0_0.length c0_0]) (t:=24) ?hr ?_;(case hd=>rfl);(case hg=>rfl);(case hr=>first|(go_simp;done)|(go_simp;rfl));intro gb310 hg w4 hbox hb;have n0_:=Zz.mk (qP (by repeat (first|(with_reducible first|exact HB.out|apply qA|apply qN|apply q1_)|exact HB.out)) hb);have n1_:=Zz.mk (hbox);have n2_:=Zz.mk ((by rw [hg];exact (qZ (by repeat (first|(with_reducible first|exact HB.out|apply qA|apply qN|apply q1_)|exact HB.out))):w.heap.size≤gb310));have n3_:=Zz.mk ((by rw [hg];exact (qZ (by repeat (first|(with_reducible first|exact HB.out|apply qA|apply qN|apply q1_)|exact HB.out))):w.heap.size≤gb310));clear HB;have HB:=n0_;have BK310:=n1_;have GW310:=n2_;have GE310:=n3_;clear n0_ n1_ n2_ n3_;clear hb hbox hg))
  go_ret
  exact ⟨by first|rfl|(simp [errW_none,errW_some] <;> rfl)|(simp [*,errW_none,errW_some] <;> rfl),by repeat (first|(with_reducible first|exact HB.out|apply qA|apply qN|apply q1_|refine qS ?_ GE310.out)|exact HB.out)⟩
 ·rw [if_neg c3] at H
  have c3b0:(a1 == 0)=false:=beq_eq_false_iff_ne.mpr c3
  have c3b1:(a1 != 0)=true:=bne_iff_ne.mpr c3
  by_cases c5:0≤a1
  ·rw [if_pos c5] at H
   have c5b0:decide (0≤a1)=true:=decide_eq_true c5
   clear c5
   by_cases c6:a1<(l0_0.length:Int)
   ·rw [if_pos c6] at H
    have c6b0:decide (a1<(l0_0.length:Int))=true:=decide_eq_true c6
    clear c6
    obtain ⟨bq7,hbq7⟩:∃ b_:Bool,b_=((rT l0_0 a1).f2):=⟨_,rfl⟩
    replace H:(if bq7=true then (some true) else ((spec_l2Kids.f k l0_0 a1).bind fun t312=>(some ((t312.length:Int) != 1))))=some r:=by rw [← hbq7] at H;exact H
    have Nbq7:=Zz.mk hbq7
    clear hbq7
    by_cases c8:bq7=true
    ·subst c8
     have H1:(some true)=some r:=by rw [if_pos rfl] at H;exact H
     clear H
     have H:=H1
     clear H1
     obtain rfl:=Option.some.inj H
     go_enter Try.func44,Try.ntmps44
     go_wp2_with (first|((with_reducible refine gate_dst (N:=2) rfl ?_);(try (refine gate_guard (by rfl) ?_;dsimp only));refine box_event ?hg (N:=2) ?hd (cs:=#[.slice A0_0 l0_0.length c0_0]) (t:=24) ?hr ?_;(case hd=>rfl);(case hg=>rfl);(case hr=>first|(go_simp;done)|(go_simp;rfl));intro gb310 hg w9 hbox hb;have n0_:=Zz.mk (qP (by repeat (first|(with_reducible first|exact HB.out|apply qA|apply qN|apply q1_)|exact HB.out)) hb);have n1_:=Zz.mk (hbox);have n2_:=Zz.mk ((by rw [hg];exact (qZ (by repeat (first|(with_reducible first|exact HB.out|apply qA|apply qN|apply q1_)|exact HB.out))):w.heap.size≤gb310));have n3_:=Zz.mk ((by rw [hg];exact (qZ (by repeat (first|(with_reducible first|exact HB.out|apply qA|apply qN|apply q1_)|exact HB.out))):w.heap.size≤gb310));clear HB;have HB:=n0_;have BK310:=n1_;have GW310:=n2_;have GE310:=n3_;clear n0_ n1_ n2_ n3_;clear hb hbox hg;have hcz10_0:w9.cell? ⟨gb310,0,none⟩=some (.slice A0_0 l0_0.length c0_0):=(bC BK310.out 0).trans rfl;have hfz10_0:=bF BK310.out 0;have p311:0≤(a1:Int):=of_decide_eq_true (by first|(with_reducible assumption)|assumption);have q311:a1<(l0_0.length:Int):=of_decide_eq_true (by first|(with_reducible assumption)|assumption);obtain ⟨ad311,e311,hx311_0,hx311_1,hx311_2⟩:=at_T62 HR0_0.out a1 p311 q311;(try rw [← Nbq7.out] at hx311_2);cases e311;replace hx311_0:=(HB.out.cell (World.block_lt_of_cell? w _ hx311_0)).trans hx311_0;replace hx311_1:=(HB.out.cell (World.block_lt_of_cell? w _ hx311_1)).trans hx311_1;replace hx311_2:=(HB.out.cell (World.block_lt_of_cell? w _ hx311_2)).trans hx311_2;replace p311:=eq_true p311;replace q311:=eq_true q311))
     go_ret
     exact ⟨by first|rfl|(simp [errW_none,errW_some] <;> rfl)|(simp [*,errW_none,errW_some] <;> rfl),by repeat (first|(with_reducible first|exact HB.out|apply qA|apply qN|apply q1_|refine qS ?_ GE310.out)|exact HB.out)⟩
    ·replace c8:=Bool.eq_false_iff.mpr c8
     subst c8
     have H1:((spec_l2Kids.f k l0_0 a1).bind fun t312=>(some ((t312.length:Int) != 1)))=some r:=by rw [if_neg (show ¬ (false=true) by decide)] at H;exact H
     clear H
     have H:=H1
     clear H1
     replace H:=Option.bind_eq_some_iff.mp H
     obtain ⟨t312,A110,H⟩:=H
     replace H:(some ((t312.length:Int) != 1))=some r:=H
     have A11:=Zz.mk A110
     clear A110
     obtain rfl:=Option.some.inj H
     go_enter Try.func44,Try.ntmps44
     go_wp2_with (first|((with_reducible refine gate_dst (N:=2) rfl ?_);(try (refine gate_guard (by rfl) ?_;dsimp only));refine box_event ?hg (N:=2) ?hd (cs:=#[.slice A0_0 l0_0.length c0_0]) (t:=24) ?hr ?_;(case hd=>rfl);(case hg=>rfl);(case hr=>first|(go_simp;done)|(go_simp;rfl));intro gb310 hg w12 hbox hb;have n0_:=Zz.mk (qP (by repeat (first|(with_reducible first|exact HB.out|apply qA|apply qN|apply q1_)|exact HB.out)) hb);have n1_:=Zz.mk (hbox);have n2_:=Zz.mk ((by rw [hg];exact (qZ (by repeat (first|(with_reducible first|exact HB.out|apply qA|apply qN|apply q1_)|exact HB.out))):w.heap.size≤gb310));have n3_:=Zz.mk ((by rw [hg];exact (qZ (by repeat (first|(with_reducible first|exact HB.out|apply qA|apply qN|apply q1_)|exact HB.out))):w.heap.size≤gb310));clear HB;have HB:=n0_;have BK310:=n1_;have GW310:=n2_;have GE310:=n3_;clear n0_ n1_ n2_ n3_;clear hb hbox hg;have hcz13_0:w12.cell? ⟨gb310,0,none⟩=some (.slice A0_0 l0_0.length c0_0):=(bC BK310.out 0).trans rfl;have hfz13_0:=bF BK310.out 0;have p311:0≤(a1:Int):=of_decide_eq_true (by first|(with_reducible assumption)|assumption);have q311:a1<(l0_0.length:Int):=of_decide_eq_true (by first|(with_reducible assumption)|assumption);obtain ⟨ad311,e311,hx311_0,hx311_1,hx311_2⟩:=at_T62 HR0_0.out a1 p311 q311;(try rw [← Nbq7.out] at hx311_2);cases e311;replace hx311_0:=(HB.out.cell (World.block_lt_of_cell? w _ hx311_0)).trans hx311_0;replace hx311_1:=(HB.out.cell (World.block_lt_of_cell? w _ hx311_1)).trans hx311_1;replace hx311_2:=(HB.out.cell (World.block_lt_of_cell? w _ hx311_2)).trans hx311_2;replace p311:=eq_true p311;replace q311:=eq_true q311)|(go_at_call 60;(with_reducible refine (spec_l2Kids.calls k _ _ l0_0 a1 t312 _ ?side1 ?side2 A11.out).mono ?_);(case side1=>repeat (first|exact (Kd.C_below HR0_0.out HB.out)|(with_reducible refine Kd.C_alloc ?_ _)|(with_reducible refine Kd.C_drewN ?_ _)|(with_reducible refine Kd.C_drew ?_)));(case side2=>exact HC0_0.out);rintro e w14 ⟨v313,rfl,ho0,hb⟩;have n0_:=Zz.mk (Kd.R_lower ho0 (qZ (by repeat (first|(with_reducible first|exact HB.out|apply qA|apply qN|apply q1_|refine qS ?_ GE310.out)|exact HB.out))));have n1_:=Zz.mk (bB (g:=gb310) (o:=.cells #[.slice (some ad311) l0_0.length c0_0] 24 (0,0)) (by (with_reducible repeat first|apply bN|apply bD|apply bA);exact BK310.out) hb);have n2_:=Zz.mk (qP (by repeat (first|(with_reducible first|exact HB.out|apply qA|apply qN|apply q1_|refine qS ?_ GE310.out)|exact HB.out)) hb);clear BK310;clear HB;have HO314:=n0_;have BK310:=n1_;have HB:=n2_;clear n0_ n1_ n2_;(try clear hb);(try clear hb2);(try clear hk);(try clear hi);(try clear ho0);obtain ⟨Ao15,co15,eo15⟩:=Kd.R_slice HO314.out;subst eo15))
     go_ret
     exact ⟨by first|rfl|(simp [errW_none,errW_some] <;> rfl)|(simp [*,errW_none,errW_some] <;> rfl),by repeat (first|(with_reducible first|exact HB.out|apply qA|apply qN|apply q1_|refine qS ?_ GE310.out)|exact HB.out)⟩
   ·rw [if_neg c6] at H
    exact absurd H (by simp)
  ·rw [if_neg c5] at H
   exact absurd H (by simp)
def spec_l4Staying.l0:Nat→List Int→Int→List (S62)→Option (List Int)
 | 0,_,_,_=>none
 | k+1,x3,x4,x316000=>if x4<(x316000.length:Int) then ((spec_l4Stays.f k x316000 x4).bind fun t319=>(if t319=true then (if x3.length<17592186044416 then (spec_l4Staying.l0 k (x3 ++ [x4]) (wrap64 (x4+1)) x316000) else (none)) else (spec_l4Staying.l0 k x3 (wrap64 (x4+1)) x316000))) else (some x3)
def spec_l4Staying.f (k:Nat) (l0_0:List (S62)):Option (List Int):=spec_l4Staying.l0 k (([]:List Int)) 0 l0_0
set_option maxHeartbeats 8000000 in
set_option maxRecDepth 100000 in
theorem spec_l4Staying.calls (k:Nat) (A0_0:Option Addr) (c0_0:Nat) (l0_0:List (S62)) (r:List Int) (w:World) (hr0_0:Kd.C k62 w A0_0 l0_0.length l0_0) (hc0_0:l0_0.length≤c0_0) (h:spec_l4Staying.f k l0_0=some r) :
  Calls Try.prog 43 #[.agg #[.slice A0_0 l0_0.length c0_0]] w fun e w'=>∃ v0_:Value,e=.returned (v0_)∧Kd.R (Kd.int .i64) 3 w' w.heap.size (fun _=>True) v0_ r∧Below w.heap.size w w':=by
 have hu24:=Try.underlying24
 have HR0_0:=Zz.mk hr0_0
 have HC0_0:=Zz.mk hc0_0
 clear hr0_0 hc0_0
 have HB:=Zz.mk (Below.refl w.heap.size w)
 have H:(spec_l4Staying.l0 k (([]:List Int)) 0 l0_0)=some r:=h
 clear h
 obtain ⟨y316,hy316⟩:∃ y_:List Int,y_=(([]:List Int)):=⟨_,rfl⟩
 replace H:(spec_l4Staying.l0 k y316 0 l0_0)=some r:=by first|(rw [hy316];with_reducible exact H)|(have H2_:=(Option.bind_some _ _).symm.trans H;rw [hy316];with_reducible exact H2_)|(have H2_:=(Option.bind_some _ _).symm.trans H;with_reducible exact H2_)|with_reducible exact H|(rw [hy316];exact H)|exact H
 have Ny316:=Zz.mk hy316
 clear hy316
 have H':=Zz.mk H
 clear H
 go_enter Try.func43,Try.ntmps43
 go_wp2_with (first|((with_reducible refine gate_dst (N:=1) rfl ?_);refine box_event ?hg (N:=1) ?hd (cs:=#[.slice A0_0 l0_0.length c0_0]) (t:=24) ?hr ?_;(case hd=>rfl);(case hg=>rfl);(case hr=>first|(go_simp;done)|(go_simp;rfl));intro gb315 hg w2 hbox hb;have n0_:=Zz.mk (qP (by repeat (first|(with_reducible first|exact HB.out|apply qA|apply qN|apply q1_)|exact HB.out)) hb);have n1_:=Zz.mk (hbox);have n2_:=Zz.mk ((by rw [hg];exact (qZ (by repeat (first|(with_reducible first|exact HB.out|apply qA|apply qN|apply q1_)|exact HB.out))):w.heap.size≤gb315));have n3_:=Zz.mk ((by rw [hg];exact (qZ (by repeat (first|(with_reducible first|exact HB.out|apply qA|apply qN|apply q1_)|exact HB.out))):w.heap.size≤gb315));clear HB;have HB:=n0_;have BK315:=n1_;have GW315:=n2_;have GE315:=n3_;clear n0_ n1_ n2_ n3_;clear hb hbox hg)|((with_reducible refine gate_dst (N:=5) rfl ?_);refine Kd.R_lit (Kd.int .i64) _ 3 ?hg (N:=5) ?hd (xs:=([]:List Int)) (inner:=[]) (ok:=fun _=>True) (okp:=fun _=>True) ?hr ?hp (fun _ hk=>hk) trivial (Below.refl _ _) (Nat.le_refl _) (by simp) ?_;(case hd=>rfl);(case hg=>rfl);(case hr=>first|(go_simp;done)|(go_simp;rfl));(case hp=>exact (Reps.none _ _));intro v317 w3 ho4 hb hg_ hnew_;clear hg_ hnew_;(first|rw [← Ny316.out] at ho4|(simp only [Int.reduceToNat] at ho4;rw [← Ny316.out] at ho4));have n0_:=Zz.mk (Kd.R_lower ho4 (qZ (by repeat (first|(with_reducible first|exact HB.out|apply qA|apply qN|apply q1_|refine qS ?_ GE315.out)|exact HB.out))));have n1_:=Zz.mk (bB (g:=gb315) (o:=.cells #[.slice A0_0 l0_0.length c0_0] 24 (0,0)) (by (with_reducible repeat first|apply bN|apply bD|apply bA);exact BK315.out) hb);have n2_:=Zz.mk (qP (by repeat (first|(with_reducible first|exact HB.out|apply qA|apply qN|apply q1_|refine qS ?_ GE315.out)|exact HB.out)) hb);clear BK315;clear HB;have HO318:=n0_;have BK315:=n1_;have HB:=n2_;clear n0_ n1_ n2_;clear hb ho4))
 go_loopg [3,4] k (fun kq v3 v4 w'=>∃ (x3_1:List Int) (x4_1:Int),v4=.int .i64 x4_1∧Zz (spec_l4Staying.l0 kq x3_1 x4_1 l0_0=some r)∧Zz (kq≤k)∧Zz (Kd.R (Kd.int .i64) 3 w' w.heap.size (fun _=>True) v3 x3_1)∧Zz (w'.heap[gb315]?=some (.cells #[(.slice A0_0 l0_0.length c0_0)] 24 (0,0)))∧Zz (Below w.heap.size w w'))
 case atStart=>exact ⟨(y316),(0),(by first|rfl|(simp;done)|(simp [*];done)),H',⟨Nat.le_refl _⟩,⟨by (with_reducible repeat first|apply Kd.R_alloc|apply Kd.R_drewN|apply Kd.R_drew);exact HO318.out⟩,⟨by (with_reducible repeat first|apply bN|apply bD|apply bA);exact BK315.out⟩,⟨by repeat (first|(with_reducible first|exact HB.out|apply qA|apply qN|apply q1_|refine qS ?_ GE315.out)|exact HB.out)⟩⟩
 case round =>
  clear H'
  try clear p2
  try clear c4
  obtain ⟨x3_1,x4_1,rfl,HA,HK1,HO_3,BK315,HB⟩:=hrel
  cases gk with
  | zero=>exact absurd HA.out (by simp [spec_l4Staying.l0])
  | succ k1 =>
   have H:=HA.out
   clear HA
   simp only [spec_l4Staying.l0] at H
   by_cases c5:x4_1<(l0_0.length:Int)
   ·rw [if_pos c5] at H
    have c5b0:decide (x4_1<(l0_0.length:Int))=true:=decide_eq_true c5
    clear c5
    replace H:=Option.bind_eq_some_iff.mp H
    obtain ⟨t319,A60,H⟩:=H
    replace H:(if t319=true then (if x3_1.length<17592186044416 then (spec_l4Staying.l0 k1 (x3_1 ++ [x4_1]) (wrap64 (x4_1+1)) l0_0) else (none)) else (spec_l4Staying.l0 k1 x3_1 (wrap64 (x4_1+1)) l0_0))=some r:=H
    have A6:=Zz.mk A60
    clear A60
    by_cases c7:t319=true
    ·subst c7
     have H1:(if x3_1.length<17592186044416 then (spec_l4Staying.l0 k1 (x3_1 ++ [x4_1]) (wrap64 (x4_1+1)) l0_0) else (none))=some r:=by rw [if_pos rfl] at H;exact H
     clear H
     have H:=H1
     clear H1
     by_cases c8:x3_1.length<17592186044416
     ·rw [if_pos c8] at H
      have LMc8:=Zz.mk c8
      clear c8
      obtain ⟨y320,hy320⟩:∃ y_:List Int,y_=(x3_1 ++ [x4_1]):=⟨_,rfl⟩
      replace H:(spec_l4Staying.l0 k1 y320 (wrap64 (x4_1+1)) l0_0)=some r:=by first|(rw [hy320];with_reducible exact H)|(have H2_:=(Option.bind_some _ _).symm.trans H;rw [hy320];with_reducible exact H2_)|(have H2_:=(Option.bind_some _ _).symm.trans H;with_reducible exact H2_)|with_reducible exact H|(rw [hy320];exact H)|exact H
      have Ny320:=Zz.mk hy320
      clear hy320
      have H':=Zz.mk H
      clear H
      have hcz9_0:wr.cell? ⟨gb315,0,none⟩=some (.slice A0_0 l0_0.length c0_0):=(bC BK315.out 0).trans rfl
      have hfz9_0:=bF BK315.out 0
      go_wp2_with (first|((with_reducible refine gate_callee (f:=44) rfl ?_);refine goesL_ (some 15) rfl rfl Try.func44 (by kernel_rfl) rfl #[.agg #[.slice A0_0 l0_0.length c0_0],.int .i64 x4_1] rfl (by (try simp only [List.map_toArray,List.map_cons,List.map_nil]);first|done|rfl|(simp only [List.length_drop,List.length_take];rfl)) ?_;(with_reducible refine (spec_l4Stays.calls k1 _ _ l0_0 x4_1 true _ ?side1 ?side2 A6.out).mono ?_);(case side1=>repeat (first|exact (Kd.C_below HR0_0.out HB.out)|(with_reducible refine Kd.C_alloc ?_ _)|(with_reducible refine Kd.C_drewN ?_ _)|(with_reducible refine Kd.C_drew ?_)));(case side2=>exact HC0_0.out);rintro e w10 ⟨rfl,hb⟩;refine ⟨_,rfl,?_⟩;have n0_:=Zz.mk (Kd.R_below (by (with_reducible repeat first|apply Kd.R_alloc|apply Kd.R_drewN|apply Kd.R_drew);exact HO_3.out) hb);have n1_:=Zz.mk (bB (g:=gb315) (o:=.cells #[.slice A0_0 l0_0.length c0_0] 24 (0,0)) (by (with_reducible repeat first|apply bN|apply bD|apply bA);exact BK315.out) hb);have n2_:=Zz.mk (qP (by repeat (first|(with_reducible first|exact HB.out|apply qA|apply qN|apply q1_|refine qS ?_ GE315.out)|exact HB.out)) hb);clear HO_3;clear BK315;clear HB;have HO_3:=n0_;have BK315:=n1_;have HB:=n2_;clear n0_ n1_ n2_;(try clear hb);(try clear hb2);(try clear hk);(try clear hi))|((with_reducible refine gate_builtin (b:=.append) (xs:=#[.tmp 16,.tmp 18]) rfl ?_);at_builtin;refine Kd.R_append (Kd.int .i64) (w0:=w) w.heap.size rfl (.tmp 16) (.tmp 18) 43 3 (.int .i64 0) 8 rfl Try.underlying43 info3 rfl (by decide) (by omega) u3 x3_1 x4_1 [.int .i64 x4_1] (fun _=>True) (fun _=>False) rfl rfl ?aP (fun _ hk=>hk.elim) ?aF ?aO ?aB ?aS ?aL ?_;(case aP=>exact rfl);(case aB=>exact (by repeat (first|(with_reducible first|exact HB.out|apply qA|apply qN|apply q1_|refine qS ?_ GE315.out)|exact HB.out)));(case aF=>exact (fun _ _=>trivial));(case aO=>exact (by (with_reducible repeat first|apply Kd.R_alloc|apply Kd.R_drewN|apply Kd.R_drew);exact HO_3.out));(case aS=>exact (qZ (by repeat (first|(with_reducible first|exact HB.out|apply qA|apply qN|apply q1_|refine qS ?_ GE315.out)|exact HB.out))));(case aL=>have:=LMc8.out;omega);intro v321 w11 ho hb hg hat;rw [← Ny320.out] at ho;have n0_:=Zz.mk (blk_grown (g:=gb315) (o:=.cells #[.slice A0_0 l0_0.length c0_0] 24 (0,0)) (by (with_reducible repeat first|apply bN|apply bD|apply bA);exact BK315.out) hg (Kd.R_ne HO_3.out BK315.out (by decide)));have n1_:=Zz.mk (hb);have n2_:=Zz.mk (ho);clear BK315;clear HB;clear HO_3;have BK315:=n0_;have HB:=n1_;have HO322:=n2_;clear n0_ n1_ n2_;clear ho hb hg hat))
      go_roundg k1
      case measure=>have:=HK1.out;omega
      case rel=>exact ⟨(y320),(wrap64 (x4_1+1)),(by first|rfl|(simp;done)|(simp [*];done)),H',⟨by have:=HK1.out;omega⟩,⟨by (with_reducible repeat first|apply Kd.R_alloc|apply Kd.R_drewN|apply Kd.R_drew);exact HO322.out⟩,⟨by (with_reducible repeat first|apply bN|apply bD|apply bA);exact BK315.out⟩,⟨by repeat (first|(with_reducible first|exact HB.out|apply qA|apply qN|apply q1_|refine qS ?_ GE315.out)|exact HB.out)⟩⟩
     ·rw [if_neg c8] at H
      exact absurd H (by simp)
    ·replace c7:=Bool.eq_false_iff.mpr c7
     subst c7
     have H1:(spec_l4Staying.l0 k1 x3_1 (wrap64 (x4_1+1)) l0_0)=some r:=by rw [if_neg (show ¬ (false=true) by decide)] at H;exact H
     clear H
     have H:=H1
     clear H1
     have H':=Zz.mk H
     clear H
     have hcz12_0:wr.cell? ⟨gb315,0,none⟩=some (.slice A0_0 l0_0.length c0_0):=(bC BK315.out 0).trans rfl
     have hfz12_0:=bF BK315.out 0
     go_wp2_with (first|((with_reducible refine gate_callee (f:=44) rfl ?_);refine goesL_ (some 15) rfl rfl Try.func44 (by kernel_rfl) rfl #[.agg #[.slice A0_0 l0_0.length c0_0],.int .i64 x4_1] rfl (by (try simp only [List.map_toArray,List.map_cons,List.map_nil]);first|done|rfl|(simp only [List.length_drop,List.length_take];rfl)) ?_;(with_reducible refine (spec_l4Stays.calls k1 _ _ l0_0 x4_1 false _ ?side1 ?side2 A6.out).mono ?_);(case side1=>repeat (first|exact (Kd.C_below HR0_0.out HB.out)|(with_reducible refine Kd.C_alloc ?_ _)|(with_reducible refine Kd.C_drewN ?_ _)|(with_reducible refine Kd.C_drew ?_)));(case side2=>exact HC0_0.out);rintro e w13 ⟨rfl,hb⟩;refine ⟨_,rfl,?_⟩;have n0_:=Zz.mk (Kd.R_below (by (with_reducible repeat first|apply Kd.R_alloc|apply Kd.R_drewN|apply Kd.R_drew);exact HO_3.out) hb);have n1_:=Zz.mk (bB (g:=gb315) (o:=.cells #[.slice A0_0 l0_0.length c0_0] 24 (0,0)) (by (with_reducible repeat first|apply bN|apply bD|apply bA);exact BK315.out) hb);have n2_:=Zz.mk (qP (by repeat (first|(with_reducible first|exact HB.out|apply qA|apply qN|apply q1_|refine qS ?_ GE315.out)|exact HB.out)) hb);clear HO_3;clear BK315;clear HB;have HO_3:=n0_;have BK315:=n1_;have HB:=n2_;clear n0_ n1_ n2_;(try clear hb);(try clear hb2);(try clear hk);(try clear hi)))
     go_roundg k1
     case measure=>have:=HK1.out;omega
     case rel=>exact ⟨(x3_1),(wrap64 (x4_1+1)),(by first|rfl|(simp;done)|(simp [*];done)),H',⟨by have:=HK1.out;omega⟩,⟨by (with_reducible repeat first|apply Kd.R_alloc|apply Kd.R_drewN|apply Kd.R_drew);exact HO_3.out⟩,⟨by (with_reducible repeat first|apply bN|apply bD|apply bA);exact BK315.out⟩,⟨by repeat (first|(with_reducible first|exact HB.out|apply qA|apply qN|apply q1_|refine qS ?_ GE315.out)|exact HB.out)⟩⟩
   ·rw [if_neg c5] at H
    have c5b0:decide (x4_1<(l0_0.length:Int))=false:=decide_eq_false c5
    clear c5
    obtain rfl:=Option.some.inj H
    have hcz14_0:wr.cell? ⟨gb315,0,none⟩=some (.slice A0_0 l0_0.length c0_0):=(bC BK315.out 0).trans rfl
    have hfz14_0:=bF BK315.out 0
    go_wp2
    go_ret
    exact ⟨_,by first|rfl|(simp [errW_none,errW_some] <;> rfl)|(simp [*,errW_none,errW_some] <;> rfl),by (with_reducible repeat first|apply Kd.R_alloc|apply Kd.R_drewN|apply Kd.R_drew);exact HO_3.out,by repeat (first|(with_reducible first|exact HB.out|apply qA|apply qN|apply q1_|refine qS ?_ GE315.out)|exact HB.out)⟩
end Go.Proofs.Ytghkbgmbbcaecaa.Q
namespace Go.Proofs.Ytghkbgmbbcaecaa.Q
open Go.RowKit Go.Proofs.YtghkbgmbbcaecaaW.PrintWords Go.Proofs.YtghkbgmbbcaecaaW.PrintLast Go.Proofs.YtghkbgmbbcaecaaW.PrintMore
attribute [local go_sem] run_field_23 run_field_24 run_field_31 run_field_32 run_field_35 run_field_36 isSome_setCell max2_int min2_int max_two min_two max_three min_three max_four min_four   -- for this text's walks alone
set_option linter.unusedVariables false
set_option linter.unusedSimpArgs false
mutual
def spec_l4Press.l0:Nat→List Int→Int→List (S62)→List (S69)→Option ((List (S69)))
  | 0,_,_,_,_=>none
  | k+1,x4,x5,x324000,x332000=>if x5<(x4.length:Int) then (if 0≤x5 then (if 0≤(rd x4 x5) then (if (rd x4 x5)<(x324000.length:Int) then (if x5 > 0 then (spec_l4Press.l1 k x4 x5 ((rT x324000 (rd x4 x5)).f1) x324000 x332000 (⟨#[]⟩:ByteArray) (-1) ((rT x324000 (rd x4 x5)).f2)) else (if x332000.length<4398046511104 then (spec_l4Press.l0 k x4 (wrap64 (x5+1)) x324000 (x332000 ++ [(⟨(⟨#[]⟩:ByteArray),(-1),(rT x324000 (rd x4 x5)).f2⟩:S69)])) else (none))) else (none)) else (none)) else (none)) else (some x332000)
def spec_l4Press.l1:Nat→List Int→Int→Int→List (S62)→List (S69)→ByteArray→Int→Bool→Option ((List (S69)))
  | 0,_,_,_,_,_,_,_,_=>none
  | k+1,x4,x5,x7,x324000,x332000,x335000,x335001,x335002=>(spec_l4Stays.f k x324000 x7).bind fun t337=>(if t337=true then (if 0≤x5 then (if x5<(x4.length:Int) then ((spec_l2Prefix.f k x324000 (rd x4 x5)).bind fun t340=>((spec_l2Prefix.f k x324000 x7).bind fun t341=>(if 0≤(t341.size:Int) then (if (t341.size:Int)≤(t340.size:Int) then (spec_l4Press.l2 k x4 x5 x7 0 x324000 x332000 (t340.extract ((t341.size:Int):Int).toNat t340.size) x335001 x335002) else (none)) else (none)))) else (none)) else (none)) else (if 0≤x7 then (if x7<(x324000.length:Int) then (spec_l4Press.l1 k x4 x5 ((rT x324000 x7).f1) x324000 x332000 x335000 x335001 x335002) else (none)) else (none)))
def spec_l4Press.l2:Nat→List Int→Int→Int→Int→List (S62)→List (S69)→ByteArray→Int→Bool→Option ((List (S69)))
  | 0,_,_,_,_,_,_,_,_,_=>none
  | k+1,x4,x5,x7,x8,x324000,x332000,x335000,x335001,x335002=>if x8<x5 then (if 0≤x8 then (if x8<(x4.length:Int) then (if (rd x4 x8)=x7 then (spec_l4Press.l2 k x4 x5 x7 (wrap64 (x8+1)) x324000 x332000 x335000 x8 x335002) else (spec_l4Press.l2 k x4 x5 x7 (wrap64 (x8+1)) x324000 x332000 x335000 x335001 x335002)) else (none)) else (none)) else (if x332000.length<4398046511104 then (spec_l4Press.l0 k x4 (wrap64 (x5+1)) x324000 (x332000 ++ [(⟨x335000,x335001,x335002⟩:S69)])) else (none))
end
def spec_l4Press.f (k:Nat) (l0_0:List (S62)):Option ((List (S69))):=(spec_l4Staying.f k l0_0).bind fun t328=>(spec_l4Press.l0 k t328 0 l0_0 (([]:List (S69))))
def spec_l4Press.T5:Bool × List (List Nat × List Nat):=(true,[([],[]),([0],[0]),([],[]),([],[]),([2,3],[2,3]),([4],[4]),([1,5],[1,5]),([6],[6]),([7],[7]),([8],[8]),([],[]),([10,9,0,1,2,3,4,5,6,7,8,9,10],[9,10])])
def spec_l4Press.B5:List Nat:=[0,1,0,0,12,28,63,127,255,511,0,2047]
theorem spec_l4Press.tab5:rtab .any (opsOf Try.f25 5)=spec_l4Press.T5:=by kernel_rfl
theorem spec_l4Press.bits5:waitsOk spec_l4Press.T5.2 spec_l4Press.B5=true:=by kernel_rfl
def spec_l4Press.T7:Bool × List (List Nat × List Nat):=(true,[([],[]),([0],[0]),([],[]),([],[]),([2,3],[2,3]),([4],[4]),([1,5],[1,5]),([6],[6]),([7],[7]),([8,0,1,2,3,4,5,6,7,8],[8])])
def spec_l4Press.B7:List Nat:=[0,1,0,0,12,28,63,127,255,511]
theorem spec_l4Press.tab7:rtab .any (opsOf Try.f25 7)=spec_l4Press.T7:=by kernel_rfl
theorem spec_l4Press.bits7:waitsOk spec_l4Press.T7.2 spec_l4Press.B7=true:=by kernel_rfl
def spec_l4Press.T10:Bool × List (List Nat × List Nat):=(true,[([],[]),([],[]),([],[]),([1,2],[1,2]),([3],[3]),([0,4],[0,4]),([],[]),([],[]),([6,7,5],[6,7]),([8],[8]),([5,9],[5,9]),([0,1,2,3,4,5,6,7,8,9,10],[]),([11,10,8,0,1,2,3,4,5,6,7,8,9,10],[10,11])])
def spec_l4Press.B10:List Nat:=[0,0,0,6,14,31,0,0,255,511,1023,2047,4095]
theorem spec_l4Press.tab10:rtab .any (opsOf Try.f25 10)=spec_l4Press.T10:=by kernel_rfl
theorem spec_l4Press.bits10:waitsOk spec_l4Press.T10.2 spec_l4Press.B10=true:=by kernel_rfl
set_option maxHeartbeats 8000000 in
set_option maxRecDepth 100000 in
theorem spec_l4Press.calls (k:Nat) (A0_0:Option Addr) (c0_0:Nat) (l0_0:List (S62)) (r:List (S69)) (w:World) (hr0_0:Kd.C k62 w A0_0 l0_0.length l0_0) (hc0_0:l0_0.length≤c0_0) (h:spec_l4Press.f k l0_0=some r) :
  Calls Try.prog 25 #[.agg #[.slice A0_0 l0_0.length c0_0]] w fun e w'=>∃ v0_:Value,e=.returned (.agg #[v0_])∧Kd.R k69 69 w' w.heap.size (fun _=>True) v0_ r∧Below w.heap.size w w':=by
 have hu24:=Try.underlying24
 have hu36:=Try.underlying36
 have hu69:=Try.underlying69
 have HR0_0:=Zz.mk hr0_0
 have HC0_0:=Zz.mk hc0_0
 clear hr0_0 hc0_0
 have HB:=Zz.mk (Below.refl w.heap.size w)
 have H:((spec_l4Staying.f k l0_0).bind fun t328=>(spec_l4Press.l0 k t328 0 l0_0 (([]:List (S69)))))=some r:=h
 clear h
 obtain ⟨y325,hy325⟩:∃ y_:List (S69),y_=(([]:List (S69))):=⟨_,rfl⟩
 replace H:((spec_l4Staying.f k l0_0).bind fun t328=>(spec_l4Press.l0 k t328 0 l0_0 y325))=some r:=by first|(rw [hy325];with_reducible exact H)|(have H2_:=(Option.bind_some _ _).symm.trans H;rw [hy325];with_reducible exact H2_)|(have H2_:=(Option.bind_some _ _).symm.trans H;with_reducible exact H2_)|with_reducible exact H|(rw [hy325];exact H)|exact H
 have Ny325:=Zz.mk hy325
 clear hy325
 replace H:=Option.bind_eq_some_iff.mp H
 obtain ⟨t328,A20,H⟩:=H
 replace H:(spec_l4Press.l0 k t328 0 l0_0 y325)=some r:=H
 have A2:=Zz.mk A20
 clear A20
 have H':=Zz.mk H
 clear H
 go_enter Try.func25,Try.ntmps25
 go_wp2_with (first|((with_reducible refine gate_dst (N:=1) rfl ?_);refine box_event ?hg (N:=1) ?hd (cs:=#[.slice A0_0 l0_0.length c0_0]) (t:=24) ?hr ?_;(case hd=>rfl);(case hg=>rfl);(case hr=>first|(go_simp;done)|(go_simp;rfl));intro gb323 hg w3 hbox hb;have n0_:=Zz.mk (qP (by repeat (first|(with_reducible first|exact HB.out|apply qA|apply qN|apply q1_)|exact HB.out)) hb);have n1_:=Zz.mk (hbox);have n2_:=Zz.mk ((by rw [hg];exact (qZ (by repeat (first|(with_reducible first|exact HB.out|apply qA|apply qN|apply q1_)|exact HB.out))):w.heap.size≤gb323));have n3_:=Zz.mk ((by rw [hg];exact (qZ (by repeat (first|(with_reducible first|exact HB.out|apply qA|apply qN|apply q1_)|exact HB.out))):w.heap.size≤gb323));clear HB;have HB:=n0_;have BK323:=n1_;have GW323:=n2_;have GE323:=n3_;clear n0_ n1_ n2_ n3_;clear hb hbox hg)|((with_reducible refine gate_dst (N:=2) rfl ?_);refine box_event ?hg (N:=2) ?hd (cs:=#[.slice none 0 0]) (t:=36) ?hr ?_;(case hd=>rfl);(case hg=>rfl);(case hr=>first|(go_simp;done)|(go_simp;rfl));intro gb324 hg w4 hbox hb;have n0_:=Zz.mk (bB (g:=gb323) (o:=.cells #[.slice A0_0 l0_0.length c0_0] 24 (0,0)) (by (with_reducible repeat first|apply bN|apply bD|apply bA);exact BK323.out) hb);have n1_:=Zz.mk (qP (by repeat (first|(with_reducible first|exact HB.out|apply qA|apply qN|apply q1_|refine qS ?_ GE323.out)|exact HB.out)) hb);have n2_:=Zz.mk (hbox);have n3_:=Zz.mk ((by rw [hg];exact (qZ (by repeat (first|(with_reducible first|exact HB.out|apply qA|apply qN|apply q1_|refine qS ?_ GE323.out)|exact HB.out))):w.heap.size≤gb324));have n4_:=Zz.mk ((by rw [hg];exact (qZ (by repeat (first|(with_reducible first|exact HB.out|apply qA|apply qN|apply q1_|refine qS ?_ GE323.out)|exact HB.out))):w.heap.size≤gb324));have n5_:=Zz.mk ((by rw [hg];exact Nat.ne_of_lt (blk_lt (g:=gb323) (o:=.cells #[.slice A0_0 l0_0.length c0_0] 24 (0,0)) (by (with_reducible repeat first|apply bN|apply bD|apply bA);exact BK323.out)):gb323 ≠ gb324));have n6_:=Zz.mk ((by rw [hg];exact Nat.ne_of_gt (blk_lt (g:=gb323) (o:=.cells #[.slice A0_0 l0_0.length c0_0] 24 (0,0)) (by (with_reducible repeat first|apply bN|apply bD|apply bA);exact BK323.out)):gb324 ≠ gb323));clear BK323;clear HB;have BK323:=n0_;have HB:=n1_;have BK324:=n2_;have GW324:=n3_;have GE324:=n4_;have NB323_324:=n5_;have NB324_323:=n6_;clear n0_ n1_ n2_ n3_ n4_ n5_ n6_;clear hb hbox hg)|((with_reducible refine gate_dst (N:=9) rfl ?_);refine Kd.R_lit k69 _ 69 ?hg (N:=9) ?hd (xs:=([]:List (S69))) (inner:=[]) (ok:=fun _=>True) (okp:=fun _=>True) ?hr ?hp (fun _ hk=>hk) trivial (Below.refl _ _) (Nat.le_refl _) (by simp) ?_;(case hd=>rfl);(case hg=>rfl);(case hr=>first|(go_simp;done)|(go_simp;rfl));(case hp=>exact (Reps.none _ _));intro v326 w5 ho6 hb hg_ hnew_;clear hg_ hnew_;(first|rw [← Ny325.out] at ho6|(simp only [Int.reduceToNat] at ho6;rw [← Ny325.out] at ho6));have n0_:=Zz.mk (Kd.R_lower ho6 (qZ (by repeat (first|(with_reducible first|exact HB.out|apply qA|apply qN|apply q1_|refine qS ?_ GE323.out|refine qS ?_ GE324.out)|exact HB.out))));have n1_:=Zz.mk (bB (g:=gb323) (o:=.cells #[.slice A0_0 l0_0.length c0_0] 24 (0,0)) (by (with_reducible repeat first|apply bN|apply bD|apply bA);exact BK323.out) hb);have n2_:=Zz.mk (bB (g:=gb324) (o:=.cells #[.slice none 0 0] 36 (0,0)) (by (with_reducible repeat first|apply bN|apply bD|apply bA);exact BK324.out) hb);have n3_:=Zz.mk (qP (by repeat (first|(with_reducible first|exact HB.out|apply qA|apply qN|apply q1_|refine qS ?_ GE323.out|refine qS ?_ GE324.out)|exact HB.out)) hb);clear BK323;clear BK324;clear HB;have HO327:=n0_;have BK323:=n1_;have BK324:=n2_;have HB:=n3_;clear n0_ n1_ n2_ n3_;clear hb ho6;obtain ⟨Ao7,co7,eo7⟩:=Kd.R_slice HO327.out;subst eo7;have hnb8:=NB323_324.out;have hnc8:=NB324_323.out;have hcz9_0:w5.cell? ⟨gb323,0,none⟩=some (.slice A0_0 l0_0.length c0_0):=(bC BK323.out 0).trans rfl;have hfz9_0:=bF BK323.out 0)|((with_reducible refine gate_callee (f:=43) rfl ?_);refine goesL_ (some 12) rfl rfl Try.func43 (by kernel_rfl) rfl #[.agg #[.slice A0_0 l0_0.length c0_0]] rfl (by (try simp only [List.map_toArray,List.map_cons,List.map_nil]);first|done|rfl|(simp only [List.length_drop,List.length_take];rfl)) ?_;(with_reducible refine (spec_l4Staying.calls k _ _ l0_0 t328 _ ?side1 ?side2 A2.out).mono ?_);(case side1=>repeat (first|exact (Kd.C_below HR0_0.out HB.out)|(with_reducible refine Kd.C_alloc ?_ _)|(with_reducible refine Kd.C_drewN ?_ _)|(with_reducible refine Kd.C_drew ?_)));(case side2=>exact HC0_0.out);rintro e w10 ⟨v329,rfl,ho0,hb⟩;refine ⟨_,rfl,?_⟩;have n0_:=Zz.mk (Kd.R_below (by (with_reducible repeat first|apply Kd.R_alloc|apply Kd.R_drewN|apply Kd.R_drew);exact HO327.out) hb);have n1_:=Zz.mk (Kd.R_lower ho0 (qZ (by repeat (first|(with_reducible first|exact HB.out|apply qA|apply qN|apply q1_|refine qS ?_ GE323.out|refine qS ?_ GE324.out)|exact HB.out))));have n2_:=Zz.mk (bB (g:=gb323) (o:=.cells #[.slice A0_0 l0_0.length c0_0] 24 (0,0)) (by (with_reducible repeat first|apply bN|apply bD|apply bA);exact BK323.out) hb);have n3_:=Zz.mk (bB (g:=gb324) (o:=.cells #[.slice none 0 0] 36 (0,0)) (by (with_reducible repeat first|apply bN|apply bD|apply bA);exact BK324.out) hb);have n4_:=Zz.mk (qP (by repeat (first|(with_reducible first|exact HB.out|apply qA|apply qN|apply q1_|refine qS ?_ GE323.out|refine qS ?_ GE324.out)|exact HB.out)) hb);clear HO327;clear BK323;clear BK324;clear HB;have HO327:=n0_;have HO330:=n1_;have BK323:=n2_;have BK324:=n3_;have HB:=n4_;clear n0_ n1_ n2_ n3_ n4_;(try clear hb);(try clear hb2);(try clear hk);(try clear hi);(try clear ho0))|((with_reducible refine gate_dst (N:=3) rfl ?_);refine box_event ?hg (N:=3) ?hd (cs:=#[.slice none 0 0]) (t:=36) ?hr ?_;(case hd=>rfl);(case hg=>rfl);(case hr=>first|(go_simp;done)|(go_simp;rfl));intro gb331 hg w11 hbox hb;have n0_:=Zz.mk (Kd.R_below (by (with_reducible repeat first|apply Kd.R_alloc|apply Kd.R_drewN|apply Kd.R_drew);exact HO327.out) hb);have n1_:=Zz.mk (Kd.R_below (by (with_reducible repeat first|apply Kd.R_alloc|apply Kd.R_drewN|apply Kd.R_drew);exact HO330.out) hb);have n2_:=Zz.mk (bB (g:=gb323) (o:=.cells #[.slice A0_0 l0_0.length c0_0] 24 (0,0)) (by (with_reducible repeat first|apply bN|apply bD|apply bA);exact BK323.out) hb);have n3_:=Zz.mk (bB (g:=gb324) (o:=.cells #[.slice none 0 0] 36 (0,0)) (by (with_reducible repeat first|apply bN|apply bD|apply bA);exact BK324.out) hb);have n4_:=Zz.mk (qP (by repeat (first|(with_reducible first|exact HB.out|apply qA|apply qN|apply q1_|refine qS ?_ GE323.out|refine qS ?_ GE324.out)|exact HB.out)) hb);have n5_:=Zz.mk (hbox);have n6_:=Zz.mk ((by rw [hg];exact (qZ (by repeat (first|(with_reducible first|exact HB.out|apply qA|apply qN|apply q1_|refine qS ?_ GE323.out|refine qS ?_ GE324.out)|exact HB.out))):w.heap.size≤gb331));have n7_:=Zz.mk ((by rw [hg];exact (qZ (by repeat (first|(with_reducible first|exact HB.out|apply qA|apply qN|apply q1_|refine qS ?_ GE323.out|refine qS ?_ GE324.out)|exact HB.out))):w.heap.size≤gb331));have n8_:=Zz.mk ((by rw [hg];exact Nat.ne_of_lt (blk_lt (g:=gb323) (o:=.cells #[.slice A0_0 l0_0.length c0_0] 24 (0,0)) (by (with_reducible repeat first|apply bN|apply bD|apply bA);exact BK323.out)):gb323 ≠ gb331));have n9_:=Zz.mk ((by rw [hg];exact Nat.ne_of_gt (blk_lt (g:=gb323) (o:=.cells #[.slice A0_0 l0_0.length c0_0] 24 (0,0)) (by (with_reducible repeat first|apply bN|apply bD|apply bA);exact BK323.out)):gb331 ≠ gb323));have n10_:=Zz.mk ((by rw [hg];exact Nat.ne_of_lt (blk_lt (g:=gb324) (o:=.cells #[.slice none 0 0] 36 (0,0)) (by (with_reducible repeat first|apply bN|apply bD|apply bA);exact BK324.out)):gb324 ≠ gb331));have n11_:=Zz.mk ((by rw [hg];exact Nat.ne_of_gt (blk_lt (g:=gb324) (o:=.cells #[.slice none 0 0] 36 (0,0)) (by (with_reducible repeat first|apply bN|apply bD|apply bA);exact BK324.out)):gb331 ≠ gb324));clear HO327;clear HO330;clear BK323;clear BK324;clear HB;have HO327:=n0_;have HO330:=n1_;have BK323:=n2_;have BK324:=n3_;have HB:=n4_;have BK331:=n5_;have GW331:=n6_;have GE331:=n7_;have NB323_331:=n8_;have NB331_323:=n9_;have NB324_331:=n10_;have NB331_324:=n11_;clear n0_ n1_ n2_ n3_ n4_ n5_ n6_ n7_ n8_ n9_ n10_ n11_;clear hb hbox hg;have hnb12:=NB331_323.out;have hnc12:=NB323_331.out;have hnb13:=NB331_324.out;have hnc13:=NB324_331.out;have hcz14_0:w11.cell? ⟨gb331,0,none⟩=some (.slice none 0 0):=(bC BK331.out 0).trans rfl;have hfz14_0:=bF BK331.out 0))
 go_loopg [5] k (fun kq v5 w'=>∃ (x5_1:Int) (x332000_1:List (S69)) (u332000:Value),v5=.int .i64 x5_1∧Zz (spec_l4Press.l0 kq t328 x5_1 l0_0 x332000_1=some r)∧Zz (kq≤k)∧Zz (Kd.R (Kd.int .i64) 3 w' w.heap.size (fun _=>True) v329 t328)∧Zz (Kd.R k69 69 w' w.heap.size (fun _=>True) u332000 x332000_1)∧Zz (w'.heap[gb323]?=some (.cells #[(.slice A0_0 l0_0.length c0_0)] 24 (0,0)))∧Zz (w'.heap[gb324]?=some (.cells #[(.slice none 0 0)] 36 (0,0)))∧Zz (w'.heap[gb331]?=some (.cells #[u332000] 36 (0,0)))∧Zz (Below w.heap.size w w'))
 case atStart=>exact ⟨(0),(y325),(.slice Ao7 y325.length co7),(by first|rfl|(simp;done)|(simp [*];done)),H',⟨Nat.le_refl _⟩,⟨by (with_reducible repeat first|apply Kd.R_alloc|apply Kd.R_drewN|apply Kd.R_drew);exact Kd.R_mono (R_same_ (Kd.R_far (p:=⟨gb331,0,none⟩) (Kd.R_types HO330.out BK331.out (by decide)) (fun _ hk=>hk.2) (.slice Ao7 y325.length co7)) rfl) (fun _ hk=>trivial)⟩,⟨by (with_reducible repeat first|apply Kd.R_alloc|apply Kd.R_drewN|apply Kd.R_drew);exact Kd.R_mono (R_same_ (Kd.R_far (p:=⟨gb331,0,none⟩) (Kd.R_types HO327.out BK331.out (by decide)) (fun _ hk=>hk.2) (.slice Ao7 y325.length co7)) rfl) (fun _ hk=>trivial)⟩,⟨by (with_reducible repeat first|apply bN|apply bD|apply bA);refine blk_far ?_ NB323_331.out _;(with_reducible repeat first|apply bN|apply bD|apply bA);exact BK323.out⟩,⟨by (with_reducible repeat first|apply bN|apply bD|apply bA);refine blk_far ?_ NB324_331.out _;(with_reducible repeat first|apply bN|apply bD|apply bA);exact BK324.out⟩,⟨by (with_reducible repeat first|apply bN|apply bD|apply bA);refine blk_put (cs:=#[.slice none 0 0]) ?_ 0 _ rfl;(with_reducible repeat first|apply bN|apply bD|apply bA);exact BK331.out⟩,⟨by repeat (first|(with_reducible first|exact HB.out|apply qA|apply qN|apply q1_|refine qS ?_ GE323.out|refine qS ?_ GE324.out|refine qS ?_ GE331.out)|exact HB.out)⟩⟩
 case round =>
  clear H'
  try clear c1
  try clear c2
  try clear p2
  try clear c4
  try clear c8
  try clear c12
  try clear c13
  try clear hcz14_0
  try clear hcz9_0
  try clear hfz14_0
  try clear hfz9_0
  obtain ⟨x5_1,x332000_1,u332000,rfl,HA,HK1,HO_4,HO_332000,BK323,BK324,BK331,HB⟩:=hrel
  cases gk with
  | zero=>exact absurd HA.out (by simp [spec_l4Press.l0])
  | succ k1 =>
   have H:=HA.out
   clear HA
   simp only [spec_l4Press.l0] at H
   by_cases c15:x5_1<(t328.length:Int)
   ·rw [if_pos c15] at H
    have c15b0:decide (x5_1<(t328.length:Int))=true:=decide_eq_true c15
    clear c15
    by_cases c16:0≤x5_1
    ·rw [if_pos c16] at H
     have c16b0:decide (0≤x5_1)=true:=decide_eq_true c16
     clear c16
     by_cases c17:0≤(rd t328 x5_1)
     ·rw [if_pos c17] at H
      have c17b0:decide (0≤(rd t328 x5_1))=true:=decide_eq_true c17
      clear c17
      by_cases c18:(rd t328 x5_1)<(l0_0.length:Int)
      ·rw [if_pos c18] at H
       have c18b0:decide ((rd t328 x5_1)<(l0_0.length:Int))=true:=decide_eq_true c18
       clear c18
       by_cases c19:x5_1 > 0
       ·rw [if_pos c19] at H
        have c19b0:decide (0<x5_1)=true:=decide_eq_true c19
        clear c19
        have H':=Zz.mk H
        clear H
        obtain ⟨Ao20,co20,eo20⟩:=Kd.R_slice HO_4.out
        subst eo20
        try go_wp2
        have n0_:=Zz.mk (Kd.R_drew HO_4.out)
        have n1_:=Zz.mk (Kd.R_drew HO_332000.out)
        have n2_:=Zz.mk (bD BK323.out)
        have n3_:=Zz.mk (bD BK324.out)
        have n4_:=Zz.mk (bD BK331.out)
        have n5_:=Zz.mk (q1_ HB.out)
        revert n0_ n1_ n2_ n3_ n4_ n5_
        clear HO_4 HO_332000 BK323 BK324 BK331 HB
        intro HO_4 HO_332000 BK323 BK324 BK331 HB
        have p332:0≤(x5_1:Int):=of_decide_eq_true (by first|(with_reducible assumption)|assumption)
        have q332:x5_1<(t328.length:Int):=of_decide_eq_true (by first|(with_reducible assumption)|assumption)
        obtain ⟨ad332,e332,hx332_0⟩:=Kd.at_int (Kd.R_reads' HO_4.out).2.2 x5_1 p332 q332
        cases e332
        replace p332:=eq_true p332
        replace q332:=eq_true q332
        have p333:0≤((rd t328 x5_1):Int):=of_decide_eq_true (by first|(with_reducible assumption)|assumption)
        have q333:(rd t328 x5_1)<(l0_0.length:Int):=of_decide_eq_true (by first|(with_reducible assumption)|assumption)
        obtain ⟨ad333,e333,hx333_0,hx333_1,hx333_2⟩:=at_T62 HR0_0.out (rd t328 x5_1) p333 q333
        have hw333_2:=hx333_2
        have hw333_1:=hx333_1
        have hw333_0:=hx333_0
        cases e333
        replace hx333_0:=(HB.out.cell (World.block_lt_of_cell? w _ hx333_0)).trans hx333_0
        replace hx333_1:=(HB.out.cell (World.block_lt_of_cell? w _ hx333_1)).trans hx333_1
        replace hx333_2:=(HB.out.cell (World.block_lt_of_cell? w _ hx333_2)).trans hx333_2
        replace p333:=eq_true p333
        replace q333:=eq_true q333
        refine start_ (n:=12) (S:=fun w'=>w'.cell? ⟨gb323,0,none⟩=some (.slice (some ad333) l0_0.length c0_0)∧w'.cell? (ad332.add (x5_1).toNat)=some (.int .i64 (rd t328 x5_1))∧w'.cell? (ad333.add (((rd t328 x5_1)).toNat * 3))=some (.int .i64 ((rT l0_0 (rd t328 x5_1)).f0))∧w'.cell? ⟨(ad333.add (((rd t328 x5_1)).toNat * 3)).block,(ad333.add (((rd t328 x5_1)).toNat * 3)).off+1,none⟩=some (.int .i64 ((rT l0_0 (rd t328 x5_1)).f1))∧w'.cell? ⟨(ad333.add (((rd t328 x5_1)).toNat * 3)).block,(ad333.add (((rd t328 x5_1)).toNat * 3)).off+2,none⟩=some (.bool ((rT l0_0 (rd t328 x5_1)).f2))) (ds:=[]) #[false,false,false,false,false,false,false,false,false,false,false,false] (by kernel_rfl) rfl rfl ⟨(bC BK323.out 0).trans rfl,hx332_0,((HB.out.cell (World.block_lt_of_cell? w _ hw333_0)).trans hw333_0),((HB.out.cell (World.block_lt_of_cell? w _ hw333_1)).trans hw333_1),((HB.out.cell (World.block_lt_of_cell? w _ hw333_2)).trans hw333_2)⟩ (fun hHeld=>?_);refine with_tabW spec_l4Press.tab5 spec_l4Press.bits5 (fun HT_ HW_=>?_)
        generalize wr.drew=w21 at HO_4 HO_332000 BK323 BK324 BK331 HB hx332_0 hx333_0 hx333_1 hx333_2 hHeld ⊢
        refine pure_ (i:=0) (N:=some 19) (v:=?_) (a':=?_) #[true,false,false,false,false,false,false,false,false,false,false,false] rfl rfl (any_of HT_.out (by kernel_rfl)) (fun _ _ _ h=>h) (Or.inl ⟨by rfl,?_⟩) ?_ ?_
        rotate_left
        ·intro w'
         go_simp
         with_reducible rfl
        rotate_left
        ·simp only [Act.put,List.setIfInBounds_toArray,List.set_cons_zero,List.set_cons_succ,i64_w,i32_w]
         rfl
        refine pure_ (i:=2) (N:=some 21) (v:=?_) (a':=?_) #[true,false,true,false,false,false,false,false,false,false,false,false] rfl rfl (any_of HT_.out (by kernel_rfl)) (fun _ _ _ h=>h) (Or.inl ⟨by rfl,?_⟩) ?_ ?_
        rotate_left
        ·intro w'
         go_simp
         with_reducible rfl
        rotate_left
        ·simp only [Act.put,List.setIfInBounds_toArray,List.set_cons_zero,List.set_cons_succ,i64_w,i32_w]
         rfl
        refine pure_ (i:=3) (N:=some 22) (v:=?_) (a':=?_) #[true,false,true,true,false,false,false,false,false,false,false,false] rfl rfl (any_of HT_.out (by kernel_rfl)) (fun _ _ _ h=>h) (Or.inl ⟨by rfl,?_⟩) ?_ ?_
        rotate_left
        ·intro w'
         go_simp
         with_reducible rfl
        rotate_left
        ·simp only [Act.put,List.setIfInBounds_toArray,List.set_cons_zero,List.set_cons_succ,i64_w,i32_w]
         rfl
        refine pure_ (i:=4) (N:=some 23) (v:=?_) (a':=?_) #[true,false,true,true,true,false,false,false,false,false,false,false] rfl rfl (any_of HT_.out (by kernel_rfl)) (fun _ _ _ h=>h) (Or.inl ⟨by rfl,?_⟩) ?_ ?_
        rotate_left
        ·intro w'
         go_simp
         with_reducible rfl
        rotate_left
        ·simp only [Act.put,List.setIfInBounds_toArray,List.set_cons_zero,List.set_cons_succ,i64_w,i32_w]
         rfl
        refine take_ (i:=1) (N:=some 20) (v:=?_) (a':=?_) #[true,true,true,true,true,false,false,false,false,false,false,false] rfl rfl (take_ofW HT_.out HW_.out (by kernel_rfl)) (fun _ _ _ h=>h) (Or.inl ⟨by rfl,?_⟩) hHeld ?_ ?_
        rotate_left
        ·rintro w' ⟨s0,s1,s2,s3,s4⟩
         go_simp
         with_reducible rfl
        rotate_left
        ·simp only [Act.put,List.setIfInBounds_toArray,List.set_cons_zero,List.set_cons_succ,i64_w,i32_w]
         rfl
        refine take_ (i:=5) (N:=some 24) (v:=?_) (a':=?_) #[true,true,true,true,true,true,false,false,false,false,false,false] rfl rfl (take_ofW HT_.out HW_.out (by kernel_rfl)) (fun _ _ _ h=>h) (Or.inl ⟨by rfl,?_⟩) hHeld ?_ ?_
        rotate_left
        ·rintro w' ⟨s0,s1,s2,s3,s4⟩
         go_simp
         with_reducible rfl
        rotate_left
        ·simp only [Act.put,List.setIfInBounds_toArray,List.set_cons_zero,List.set_cons_succ,i64_w,i32_w]
         rfl
        refine pure_ (i:=6) (N:=some 25) (v:=?_) (a':=?_) #[true,true,true,true,true,true,true,false,false,false,false,false] rfl rfl (any_of HT_.out (by kernel_rfl)) (fun _ _ _ h=>h) (Or.inl ⟨by rfl,?_⟩) ?_ ?_
        rotate_left
        ·intro w'
         go_simp
         with_reducible rfl
        rotate_left
        ·simp only [Act.put,List.setIfInBounds_toArray,List.set_cons_zero,List.set_cons_succ,i64_w,i32_w]
         rfl
        refine pure_ (i:=7) (N:=some 26) (v:=?_) (a':=?_) #[true,true,true,true,true,true,true,true,false,false,false,false] rfl rfl (any_of HT_.out (by kernel_rfl)) (fun _ _ _ h=>h) (Or.inl ⟨by rfl,?_⟩) ?_ ?_
        rotate_left
        ·intro w'
         go_simp
         with_reducible rfl
        rotate_left
        ·simp only [Act.put,List.setIfInBounds_toArray,List.set_cons_zero,List.set_cons_succ,i64_w,i32_w]
         rfl
        refine take_ (i:=8) (N:=some 27) (v:=?_) (a':=?_) #[true,true,true,true,true,true,true,true,true,false,false,false] rfl rfl (take_ofW HT_.out HW_.out (by kernel_rfl)) (fun _ _ _ h=>h) (Or.inl ⟨by rfl,?_⟩) hHeld ?_ ?_
        rotate_left
        ·rintro w' ⟨s0,s1,s2,s3,s4⟩
         go_simp
         with_reducible rfl
        rotate_left
        ·simp only [Act.put,List.setIfInBounds_toArray,List.set_cons_zero,List.set_cons_succ,i64_w,i32_w]
         rfl
        refine pure_ (i:=9) (N:=some 28) (v:=?_) (a':=?_) #[true,true,true,true,true,true,true,true,true,true,false,false] rfl rfl (any_of HT_.out (by kernel_rfl)) (fun _ _ _ h=>h) (Or.inl ⟨by rfl,?_⟩) ?_ ?_
        rotate_left
        ·intro w'
         go_simp
         with_reducible rfl
        rotate_left
        ·simp only [Act.put,List.setIfInBounds_toArray,List.set_cons_zero,List.set_cons_succ,i64_w,i32_w]
         rfl
        refine one_ (i:=10) (N:=some 6) #[true,true,true,true,true,true,true,true,true,true,true,false] rfl rfl (one_of HT_.out (by kernel_rfl)) (by decide) (fun K hK=>?_)
        refine box_step ?hg (N:=6) ?hd (cs:=#[.string (⟨#[]⟩:ByteArray),.int .i64 0,.bool false]) (t:=69) ?hr ?_;(case hd=>rfl);(case hg=>rfl);(case hr=>first|(go_simp;done)|(go_simp;rfl))
        intro gb334 hg w22 hbox hb
        have HS1_:=(hb.cell (World.block_lt_of_cell? _ _ (hHeld.2.1))).trans (hHeld.2.1)
        have n0_:=Zz.mk (Kd.R_below HO_4.out hb)
        have n1_:=Zz.mk (Kd.R_below (Kd.R_elderB HO_332000.out gb334 (Nat.le_of_eq hg.symm)) hb)
        have n2_:=Zz.mk (bB BK323.out hb)
        have n3_:=Zz.mk (bB BK324.out hb)
        have n4_:=Zz.mk (bB BK331.out hb)
        have n5_:=Zz.mk (qP HB.out hb)
        have n6_:=Zz.mk (hbox)
        have n7_:=Zz.mk ((by rw [hg];exact (qZ HB.out):w.heap.size≤gb334))
        have n8_:=Zz.mk ((by rw [hg];exact (qZ HB.out):w.heap.size≤gb334))
        have n9_:=Zz.mk ((by rw [hg];exact Nat.ne_of_lt (blk_lt BK323.out):gb323 ≠ gb334))
        have n10_:=Zz.mk ((by rw [hg];exact Nat.ne_of_gt (blk_lt BK323.out):gb334 ≠ gb323))
        have n11_:=Zz.mk ((by rw [hg];exact Nat.ne_of_lt (blk_lt BK324.out):gb324 ≠ gb334))
        have n12_:=Zz.mk ((by rw [hg];exact Nat.ne_of_gt (blk_lt BK324.out):gb334 ≠ gb324))
        have n13_:=Zz.mk ((by rw [hg];exact Nat.ne_of_lt (blk_lt BK331.out):gb331 ≠ gb334))
        have n14_:=Zz.mk ((by rw [hg];exact Nat.ne_of_gt (blk_lt BK331.out):gb334 ≠ gb331))
        revert n0_ n1_ n2_ n3_ n4_ n5_ n6_ n7_ n8_ n9_ n10_ n11_ n12_ n13_ n14_
        clear HO_4 HO_332000 BK323 BK324 BK331 HB
        intro HO_4 HO_332000 BK323 BK324 BK331 HB BK334 GW334 GE334 NB323_334 NB334_323 NB324_334 NB334_324 NB331_334 NB334_331
        clear hb hbox hg
        refine hK.out _ _ ⟨(bC BK323.out 0).trans rfl,HS1_,((HB.out.cell (World.block_lt_of_cell? w _ hw333_0)).trans hw333_0),((HB.out.cell (World.block_lt_of_cell? w _ hw333_1)).trans hw333_1),((HB.out.cell (World.block_lt_of_cell? w _ hw333_2)).trans hw333_2)⟩ (fun hHeld=>?_)
        clear hK K
        refine norm_ (a':=?_) ?_ ?_
        rotate_left
        ·show Act.put _ (some 6) _=_
         simp only [Act.put,List.setIfInBounds_toArray,List.set_cons_zero,List.set_cons_succ,i64_w,i32_w]
         rfl
        refine one_ (i:=11) (N:=none) #[true,true,true,true,true,true,true,true,true,true,true,true] rfl rfl (one_of HT_.out (by kernel_rfl)) (by decide) (fun K hK=>?_)
        have hs23:w22.cell? ⟨gb334,0,none⟩=some (.string (⟨#[]⟩:ByteArray)):=(bC BK334.out 0).trans rfl
        have hfs23:=bF BK334.out 0
        have hns23_0:=NB323_334.out
        have hns23_1:=NB324_334.out
        have hns23_2:=NB331_334.out
        have hms23_0:=NB334_323.out
        have hms23_1:=NB334_324.out
        have hms23_2:=NB334_331.out
        have hs24:w22.cell? ⟨gb334,1,none⟩=some (.int .i64 0):=(bC BK334.out 1).trans rfl
        have hfs24:=bF BK334.out 1
        have hns24_0:=NB323_334.out
        have hns24_1:=NB324_334.out
        have hns24_2:=NB331_334.out
        have hms24_0:=NB334_323.out
        have hms24_1:=NB334_324.out
        have hms24_2:=NB334_331.out
        have hs25:w22.cell? ⟨gb334,2,none⟩=some (.bool false):=(bC BK334.out 2).trans rfl
        have hfs25:=bF BK334.out 2
        have hns25_0:=NB323_334.out
        have hns25_1:=NB324_334.out
        have hns25_2:=NB331_334.out
        have hms25_0:=NB334_323.out
        have hms25_1:=NB334_324.out
        have hms25_2:=NB334_331.out
        refine skip_ (w1:=?_) (by rfl) rfl ?_ ?_
        rotate_left
        ·go_simp
         rfl
        refine hK.out _ _ ⟨((cell_far (p:=⟨gb334,_,none⟩) NB323_334.out _).trans (((cell_far (p:=⟨gb334,_,none⟩) NB323_334.out _).trans (((cell_far (p:=⟨gb334,_,none⟩) NB323_334.out _).trans (hHeld.1)))))),((cell_far (p:=⟨gb334,_,none⟩) (by first|exact Kd.own_blk (Kd.R_ne HO_4.out BK334.out (by decide))|(rw [add_block];exact Kd.own_blk (Kd.R_ne HO_4.out BK334.out (by decide)))|(show (Addr.add _ _).block ≠ _;rw [add_block];exact Kd.own_blk (Kd.R_ne HO_4.out BK334.out (by decide)))|(dsimp only;exact Kd.own_blk (Kd.R_ne HO_4.out BK334.out (by decide)))) _).trans (((cell_far (p:=⟨gb334,_,none⟩) (by first|exact Kd.own_blk (Kd.R_ne HO_4.out BK334.out (by decide))|(rw [add_block];exact Kd.own_blk (Kd.R_ne HO_4.out BK334.out (by decide)))|(show (Addr.add _ _).block ≠ _;rw [add_block];exact Kd.own_blk (Kd.R_ne HO_4.out BK334.out (by decide)))|(dsimp only;exact Kd.own_blk (Kd.R_ne HO_4.out BK334.out (by decide)))) _).trans (((cell_far (p:=⟨gb334,_,none⟩) (by first|exact Kd.own_blk (Kd.R_ne HO_4.out BK334.out (by decide))|(rw [add_block];exact Kd.own_blk (Kd.R_ne HO_4.out BK334.out (by decide)))|(show (Addr.add _ _).block ≠ _;rw [add_block];exact Kd.own_blk (Kd.R_ne HO_4.out BK334.out (by decide)))|(dsimp only;exact Kd.own_blk (Kd.R_ne HO_4.out BK334.out (by decide)))) _).trans (hHeld.2.1)))))),((cell_far (p:=⟨gb334,_,none⟩) (by first|exact Nat.ne_of_lt (Nat.lt_of_lt_of_le (by have:=World.block_lt_of_cell? _ _ hw333_0;first|rwa [add_block] at this|exact this) GW334.out)|(rw [add_block];exact Nat.ne_of_lt (Nat.lt_of_lt_of_le (by have:=World.block_lt_of_cell? _ _ hw333_0;first|rwa [add_block] at this|exact this) GW334.out))|(show (Addr.add _ _).block ≠ _;rw [add_block];exact Nat.ne_of_lt (Nat.lt_of_lt_of_le (by have:=World.block_lt_of_cell? _ _ hw333_0;first|rwa [add_block] at this|exact this) GW334.out))|(dsimp only;exact Nat.ne_of_lt (Nat.lt_of_lt_of_le (by have:=World.block_lt_of_cell? _ _ hw333_0;first|rwa [add_block] at this|exact this) GW334.out))) _).trans (((cell_far (p:=⟨gb334,_,none⟩) (by first|exact Nat.ne_of_lt (Nat.lt_of_lt_of_le (by have:=World.block_lt_of_cell? _ _ hw333_0;first|rwa [add_block] at this|exact this) GW334.out)|(rw [add_block];exact Nat.ne_of_lt (Nat.lt_of_lt_of_le (by have:=World.block_lt_of_cell? _ _ hw333_0;first|rwa [add_block] at this|exact this) GW334.out))|(show (Addr.add _ _).block ≠ _;rw [add_block];exact Nat.ne_of_lt (Nat.lt_of_lt_of_le (by have:=World.block_lt_of_cell? _ _ hw333_0;first|rwa [add_block] at this|exact this) GW334.out))|(dsimp only;exact Nat.ne_of_lt (Nat.lt_of_lt_of_le (by have:=World.block_lt_of_cell? _ _ hw333_0;first|rwa [add_block] at this|exact this) GW334.out))) _).trans (((cell_far (p:=⟨gb334,_,none⟩) (by first|exact Nat.ne_of_lt (Nat.lt_of_lt_of_le (by have:=World.block_lt_of_cell? _ _ hw333_0;first|rwa [add_block] at this|exact this) GW334.out)|(rw [add_block];exact Nat.ne_of_lt (Nat.lt_of_lt_of_le (by have:=World.block_lt_of_cell? _ _ hw333_0;first|rwa [add_block] at this|exact this) GW334.out))|(show (Addr.add _ _).block ≠ _;rw [add_block];exact Nat.ne_of_lt (Nat.lt_of_lt_of_le (by have:=World.block_lt_of_cell? _ _ hw333_0;first|rwa [add_block] at this|exact this) GW334.out))|(dsimp only;exact Nat.ne_of_lt (Nat.lt_of_lt_of_le (by have:=World.block_lt_of_cell? _ _ hw333_0;first|rwa [add_block] at this|exact this) GW334.out))) _).trans (hHeld.2.2.1)))))),((cell_far (p:=⟨gb334,_,none⟩) (by first|exact Nat.ne_of_lt (Nat.lt_of_lt_of_le (by have:=World.block_lt_of_cell? _ _ hw333_1;first|rwa [add_block] at this|exact this) GW334.out)|(rw [add_block];exact Nat.ne_of_lt (Nat.lt_of_lt_of_le (by have:=World.block_lt_of_cell? _ _ hw333_1;first|rwa [add_block] at this|exact this) GW334.out))|(show (Addr.add _ _).block ≠ _;rw [add_block];exact Nat.ne_of_lt (Nat.lt_of_lt_of_le (by have:=World.block_lt_of_cell? _ _ hw333_1;first|rwa [add_block] at this|exact this) GW334.out))|(dsimp only;exact Nat.ne_of_lt (Nat.lt_of_lt_of_le (by have:=World.block_lt_of_cell? _ _ hw333_1;first|rwa [add_block] at this|exact this) GW334.out))) _).trans (((cell_far (p:=⟨gb334,_,none⟩) (by first|exact Nat.ne_of_lt (Nat.lt_of_lt_of_le (by have:=World.block_lt_of_cell? _ _ hw333_1;first|rwa [add_block] at this|exact this) GW334.out)|(rw [add_block];exact Nat.ne_of_lt (Nat.lt_of_lt_of_le (by have:=World.block_lt_of_cell? _ _ hw333_1;first|rwa [add_block] at this|exact this) GW334.out))|(show (Addr.add _ _).block ≠ _;rw [add_block];exact Nat.ne_of_lt (Nat.lt_of_lt_of_le (by have:=World.block_lt_of_cell? _ _ hw333_1;first|rwa [add_block] at this|exact this) GW334.out))|(dsimp only;exact Nat.ne_of_lt (Nat.lt_of_lt_of_le (by have:=World.block_lt_of_cell? _ _ hw333_1;first|rwa [add_block] at this|exact this) GW334.out))) _).trans (((cell_far (p:=⟨gb334,_,none⟩) (by first|exact Nat.ne_of_lt (Nat.lt_of_lt_of_le (by have:=World.block_lt_of_cell? _ _ hw333_1;first|rwa [add_block] at this|exact this) GW334.out)|(rw [add_block];exact Nat.ne_of_lt (Nat.lt_of_lt_of_le (by have:=World.block_lt_of_cell? _ _ hw333_1;first|rwa [add_block] at this|exact this) GW334.out))|(show (Addr.add _ _).block ≠ _;rw [add_block];exact Nat.ne_of_lt (Nat.lt_of_lt_of_le (by have:=World.block_lt_of_cell? _ _ hw333_1;first|rwa [add_block] at this|exact this) GW334.out))|(dsimp only;exact Nat.ne_of_lt (Nat.lt_of_lt_of_le (by have:=World.block_lt_of_cell? _ _ hw333_1;first|rwa [add_block] at this|exact this) GW334.out))) _).trans (hHeld.2.2.2.1)))))),((cell_far (p:=⟨gb334,_,none⟩) (by first|exact Nat.ne_of_lt (Nat.lt_of_lt_of_le (by have:=World.block_lt_of_cell? _ _ hw333_2;first|rwa [add_block] at this|exact this) GW334.out)|(rw [add_block];exact Nat.ne_of_lt (Nat.lt_of_lt_of_le (by have:=World.block_lt_of_cell? _ _ hw333_2;first|rwa [add_block] at this|exact this) GW334.out))|(show (Addr.add _ _).block ≠ _;rw [add_block];exact Nat.ne_of_lt (Nat.lt_of_lt_of_le (by have:=World.block_lt_of_cell? _ _ hw333_2;first|rwa [add_block] at this|exact this) GW334.out))|(dsimp only;exact Nat.ne_of_lt (Nat.lt_of_lt_of_le (by have:=World.block_lt_of_cell? _ _ hw333_2;first|rwa [add_block] at this|exact this) GW334.out))) _).trans (((cell_far (p:=⟨gb334,_,none⟩) (by first|exact Nat.ne_of_lt (Nat.lt_of_lt_of_le (by have:=World.block_lt_of_cell? _ _ hw333_2;first|rwa [add_block] at this|exact this) GW334.out)|(rw [add_block];exact Nat.ne_of_lt (Nat.lt_of_lt_of_le (by have:=World.block_lt_of_cell? _ _ hw333_2;first|rwa [add_block] at this|exact this) GW334.out))|(show (Addr.add _ _).block ≠ _;rw [add_block];exact Nat.ne_of_lt (Nat.lt_of_lt_of_le (by have:=World.block_lt_of_cell? _ _ hw333_2;first|rwa [add_block] at this|exact this) GW334.out))|(dsimp only;exact Nat.ne_of_lt (Nat.lt_of_lt_of_le (by have:=World.block_lt_of_cell? _ _ hw333_2;first|rwa [add_block] at this|exact this) GW334.out))) _).trans (((cell_far (p:=⟨gb334,_,none⟩) (by first|exact Nat.ne_of_lt (Nat.lt_of_lt_of_le (by have:=World.block_lt_of_cell? _ _ hw333_2;first|rwa [add_block] at this|exact this) GW334.out)|(rw [add_block];exact Nat.ne_of_lt (Nat.lt_of_lt_of_le (by have:=World.block_lt_of_cell? _ _ hw333_2;first|rwa [add_block] at this|exact this) GW334.out))|(show (Addr.add _ _).block ≠ _;rw [add_block];exact Nat.ne_of_lt (Nat.lt_of_lt_of_le (by have:=World.block_lt_of_cell? _ _ hw333_2;first|rwa [add_block] at this|exact this) GW334.out))|(dsimp only;exact Nat.ne_of_lt (Nat.lt_of_lt_of_le (by have:=World.block_lt_of_cell? _ _ hw333_2;first|rwa [add_block] at this|exact this) GW334.out))) _).trans (hHeld.2.2.2.2))))))⟩ (fun hHeld=>?_)
        clear hK K
        refine done_ (done_of HT_.out (by kernel_rfl)) ?_
        try go_wp2
        (try simp only [setCell_drewN_])
        have n0_:Zz (Kd.R (Kd.int .i64) 3 (((w22.setCell ⟨gb334,0,none⟩ (.string (⟨#[]⟩:ByteArray))).setCell ⟨gb334,1,none⟩ (.int .i64 (-1))).setCell ⟨gb334,2,none⟩ (.bool ((rT l0_0 (rd t328 x5_1)).f2))) w.heap.size (fun _=>True) (.slice (some ad332) t328.length co20) t328):=⟨by (with_reducible repeat first|apply Kd.R_alloc|apply Kd.R_drewN|apply Kd.R_drew);exact Kd.R_mono (R_same_ (Kd.R_far (p:=⟨gb334,2,none⟩) (Kd.R_far (p:=⟨gb334,1,none⟩) (Kd.R_far (p:=⟨gb334,0,none⟩) (Kd.R_types HO_4.out BK334.out (by decide)) (fun _ hk=>hk.2) (.string (⟨#[]⟩:ByteArray))) (fun _ hk=>hk.2) (.int .i64 (-1))) (fun _ hk=>hk.2) (.bool ((rT l0_0 (rd t328 x5_1)).f2))) rfl) (fun _ hk=>trivial)⟩
        have n1_:Zz (Kd.R k69 69 (((w22.setCell ⟨gb334,0,none⟩ (.string (⟨#[]⟩:ByteArray))).setCell ⟨gb334,1,none⟩ (.int .i64 (-1))).setCell ⟨gb334,2,none⟩ (.bool ((rT l0_0 (rd t328 x5_1)).f2))) w.heap.size (fun k_=>k_ ≠ gb334) u332000 x332000_1):=⟨by (with_reducible repeat first|apply Kd.R_alloc|apply Kd.R_drewN|apply Kd.R_drew);exact Kd.R_mono (R_same_ (Kd.R_far (p:=⟨gb334,2,none⟩) (Kd.R_far (p:=⟨gb334,1,none⟩) (Kd.R_far (p:=⟨gb334,0,none⟩) (Kd.R_mono HO_332000.out (fun k_ hk=>(⟨hk,hk.2⟩:_∧k_ ≠ gb334))) (fun _ hk=>hk.2) (.string (⟨#[]⟩:ByteArray))) (fun _ hk=>hk.2) (.int .i64 (-1))) (fun _ hk=>hk.2) (.bool ((rT l0_0 (rd t328 x5_1)).f2))) rfl) (fun _ hk=>hk.1.2)⟩
        have n2_:Zz ((((w22.setCell ⟨gb334,0,none⟩ (.string (⟨#[]⟩:ByteArray))).setCell ⟨gb334,1,none⟩ (.int .i64 (-1))).setCell ⟨gb334,2,none⟩ (.bool ((rT l0_0 (rd t328 x5_1)).f2))).heap[gb323]?=some (.cells #[.slice (some ad333) l0_0.length c0_0] 24 (0,0))):=⟨by (with_reducible repeat first|apply bN|apply bD|apply bA);refine blk_far ?_ NB323_334.out _;(with_reducible repeat first|apply bN|apply bD|apply bA);refine blk_far ?_ NB323_334.out _;(with_reducible repeat first|apply bN|apply bD|apply bA);refine blk_far ?_ NB323_334.out _;(with_reducible repeat first|apply bN|apply bD|apply bA);exact BK323.out⟩
        have n3_:Zz ((((w22.setCell ⟨gb334,0,none⟩ (.string (⟨#[]⟩:ByteArray))).setCell ⟨gb334,1,none⟩ (.int .i64 (-1))).setCell ⟨gb334,2,none⟩ (.bool ((rT l0_0 (rd t328 x5_1)).f2))).heap[gb324]?=some (.cells #[.slice none 0 0] 36 (0,0))):=⟨by (with_reducible repeat first|apply bN|apply bD|apply bA);refine blk_far ?_ NB324_334.out _;(with_reducible repeat first|apply bN|apply bD|apply bA);refine blk_far ?_ NB324_334.out _;(with_reducible repeat first|apply bN|apply bD|apply bA);refine blk_far ?_ NB324_334.out _;(with_reducible repeat first|apply bN|apply bD|apply bA);exact BK324.out⟩
        have n4_:Zz ((((w22.setCell ⟨gb334,0,none⟩ (.string (⟨#[]⟩:ByteArray))).setCell ⟨gb334,1,none⟩ (.int .i64 (-1))).setCell ⟨gb334,2,none⟩ (.bool ((rT l0_0 (rd t328 x5_1)).f2))).heap[gb331]?=some (.cells #[u332000] 36 (0,0))):=⟨by (with_reducible repeat first|apply bN|apply bD|apply bA);refine blk_far ?_ NB331_334.out _;(with_reducible repeat first|apply bN|apply bD|apply bA);refine blk_far ?_ NB331_334.out _;(with_reducible repeat first|apply bN|apply bD|apply bA);refine blk_far ?_ NB331_334.out _;(with_reducible repeat first|apply bN|apply bD|apply bA);exact BK331.out⟩
        have n5_:Zz ((((w22.setCell ⟨gb334,0,none⟩ (.string (⟨#[]⟩:ByteArray))).setCell ⟨gb334,1,none⟩ (.int .i64 (-1))).setCell ⟨gb334,2,none⟩ (.bool ((rT l0_0 (rd t328 x5_1)).f2))).heap[gb334]?=some (.cells #[.string (⟨#[]⟩:ByteArray),.int .i64 (-1),.bool ((rT l0_0 (rd t328 x5_1)).f2)] 69 (0,0))):=⟨by (with_reducible repeat first|apply bN|apply bD|apply bA);refine blk_put (cs:=#[.string (⟨#[]⟩:ByteArray),.int .i64 (-1),.bool false]) ?_ 2 _ rfl;(with_reducible repeat first|apply bN|apply bD|apply bA);refine blk_put (cs:=#[.string (⟨#[]⟩:ByteArray),.int .i64 0,.bool false]) ?_ 1 _ rfl;(with_reducible repeat first|apply bN|apply bD|apply bA);refine blk_put (cs:=#[.string (⟨#[]⟩:ByteArray),.int .i64 0,.bool false]) ?_ 0 _ rfl;(with_reducible repeat first|apply bN|apply bD|apply bA);exact BK334.out⟩
        have n6_:Zz (Below w.heap.size w (((w22.setCell ⟨gb334,0,none⟩ (.string (⟨#[]⟩:ByteArray))).setCell ⟨gb334,1,none⟩ (.int .i64 (-1))).setCell ⟨gb334,2,none⟩ (.bool ((rT l0_0 (rd t328 x5_1)).f2)))):=⟨by repeat (first|(with_reducible first|exact HB.out|apply qA|apply qN|apply q1_|refine qS ?_ GE323.out|refine qS ?_ GE324.out|refine qS ?_ GE331.out|refine qS ?_ GE334.out)|exact HB.out)⟩
        (try clear HO_4)
        (try clear HO_332000)
        (try clear BK323)
        (try clear BK324)
        (try clear BK331)
        (try clear BK334)
        (try clear HB)
        generalize (((w22.setCell ⟨gb334,0,none⟩ (.string (⟨#[]⟩:ByteArray))).setCell ⟨gb334,1,none⟩ (.int .i64 (-1))).setCell ⟨gb334,2,none⟩ (.bool ((rT l0_0 (rd t328 x5_1)).f2)))=w26 at n0_ n1_ n2_ n3_ n4_ n5_ n6_ ⊢
        have HO_4:=n0_
        have HO_332000:=n1_
        have BK323:=n2_
        have BK324:=n3_
        have BK331:=n4_
        have BK334:=n5_
        have HB:=n6_
        clear n0_ n1_ n2_ n3_ n4_ n5_ n6_
        have n0_:=Zz.mk (Kd.R_drew HO_4.out)
        have n1_:=Zz.mk (Kd.R_drew HO_332000.out)
        have n2_:=Zz.mk (bD BK323.out)
        have n3_:=Zz.mk (bD BK324.out)
        have n4_:=Zz.mk (bD BK331.out)
        have n5_:=Zz.mk (bD BK334.out)
        have n6_:=Zz.mk (q1_ HB.out)
        revert n0_ n1_ n2_ n3_ n4_ n5_ n6_
        clear HO_4 HO_332000 BK323 BK324 BK331 BK334 HB
        intro HO_4 HO_332000 BK323 BK324 BK331 BK334 HB
        have p335:0≤(x5_1:Int):=of_decide_eq_true (by first|(with_reducible assumption)|assumption)
        have q335:x5_1<(t328.length:Int):=of_decide_eq_true (by first|(with_reducible assumption)|assumption)
        obtain ⟨ad335,e335,hx335_0⟩:=Kd.at_int (Kd.R_reads' HO_4.out).2.2 x5_1 p335 q335
        obtain rfl:ad332=ad335:=(by injection e335)
        replace p335:=eq_true p335
        replace q335:=eq_true q335
        have p336:0≤((rd t328 x5_1):Int):=of_decide_eq_true (by first|(with_reducible assumption)|assumption)
        have q336:(rd t328 x5_1)<(l0_0.length:Int):=of_decide_eq_true (by first|(with_reducible assumption)|assumption)
        obtain ⟨ad336,e336,hx336_0,hx336_1,hx336_2⟩:=at_T62 HR0_0.out (rd t328 x5_1) p336 q336
        have hw336_2:=hx336_2
        have hw336_1:=hx336_1
        have hw336_0:=hx336_0
        obtain rfl:ad333=ad336:=(by injection e336)
        replace hx336_0:=(HB.out.cell (World.block_lt_of_cell? w _ hx336_0)).trans hx336_0
        replace hx336_1:=(HB.out.cell (World.block_lt_of_cell? w _ hx336_1)).trans hx336_1
        replace hx336_2:=(HB.out.cell (World.block_lt_of_cell? w _ hx336_2)).trans hx336_2
        replace p336:=eq_true p336
        replace q336:=eq_true q336
        refine start_ (n:=10) (S:=fun w'=>w'.cell? ⟨gb323,0,none⟩=some (.slice (some ad333) l0_0.length c0_0)∧w'.cell? (ad332.add (x5_1).toNat)=some (.int .i64 (rd t328 x5_1))∧w'.cell? (ad333.add (((rd t328 x5_1)).toNat * 3))=some (.int .i64 ((rT l0_0 (rd t328 x5_1)).f0))∧w'.cell? ⟨(ad333.add (((rd t328 x5_1)).toNat * 3)).block,(ad333.add (((rd t328 x5_1)).toNat * 3)).off+1,none⟩=some (.int .i64 ((rT l0_0 (rd t328 x5_1)).f1))∧w'.cell? ⟨(ad333.add (((rd t328 x5_1)).toNat * 3)).block,(ad333.add (((rd t328 x5_1)).toNat * 3)).off+2,none⟩=some (.bool ((rT l0_0 (rd t328 x5_1)).f2))) (ds:=[]) #[false,false,false,false,false,false,false,false,false,false] (by kernel_rfl) rfl rfl ⟨(bC BK323.out 0).trans rfl,hx335_0,((HB.out.cell (World.block_lt_of_cell? w _ hw336_0)).trans hw336_0),((HB.out.cell (World.block_lt_of_cell? w _ hw336_1)).trans hw336_1),((HB.out.cell (World.block_lt_of_cell? w _ hw336_2)).trans hw336_2)⟩ (fun hHeld=>?_);refine with_tabW spec_l4Press.tab7 spec_l4Press.bits7 (fun HT_ HW_=>?_)
        generalize w26.drew=w27 at HO_4 HO_332000 BK323 BK324 BK331 BK334 HB hx335_0 hx336_0 hx336_1 hx336_2 hHeld ⊢
        refine pure_ (i:=0) (N:=some 31) (v:=?_) (a':=?_) #[true,false,false,false,false,false,false,false,false,false] rfl rfl (any_of HT_.out (by kernel_rfl)) (fun _ _ _ h=>h) (Or.inl ⟨by rfl,?_⟩) ?_ ?_
        rotate_left
        ·intro w'
         go_simp
         with_reducible rfl
        rotate_left
        ·simp only [Act.put,List.setIfInBounds_toArray,List.set_cons_zero,List.set_cons_succ,i64_w,i32_w]
         rfl
        refine pure_ (i:=2) (N:=some 33) (v:=?_) (a':=?_) #[true,false,true,false,false,false,false,false,false,false] rfl rfl (any_of HT_.out (by kernel_rfl)) (fun _ _ _ h=>h) (Or.inl ⟨by rfl,?_⟩) ?_ ?_
        rotate_left
        ·intro w'
         go_simp
         with_reducible rfl
        rotate_left
        ·simp only [Act.put,List.setIfInBounds_toArray,List.set_cons_zero,List.set_cons_succ,i64_w,i32_w]
         rfl
        refine pure_ (i:=3) (N:=some 34) (v:=?_) (a':=?_) #[true,false,true,true,false,false,false,false,false,false] rfl rfl (any_of HT_.out (by kernel_rfl)) (fun _ _ _ h=>h) (Or.inl ⟨by rfl,?_⟩) ?_ ?_
        rotate_left
        ·intro w'
         go_simp
         with_reducible rfl
        rotate_left
        ·simp only [Act.put,List.setIfInBounds_toArray,List.set_cons_zero,List.set_cons_succ,i64_w,i32_w]
         rfl
        refine pure_ (i:=4) (N:=some 35) (v:=?_) (a':=?_) #[true,false,true,true,true,false,false,false,false,false] rfl rfl (any_of HT_.out (by kernel_rfl)) (fun _ _ _ h=>h) (Or.inl ⟨by rfl,?_⟩) ?_ ?_
        rotate_left
        ·intro w'
         go_simp
         with_reducible rfl
        rotate_left
        ·simp only [Act.put,List.setIfInBounds_toArray,List.set_cons_zero,List.set_cons_succ,i64_w,i32_w]
         rfl
        refine take_ (i:=1) (N:=some 32) (v:=?_) (a':=?_) #[true,true,true,true,true,false,false,false,false,false] rfl rfl (take_ofW HT_.out HW_.out (by kernel_rfl)) (fun _ _ _ h=>h) (Or.inl ⟨by rfl,?_⟩) hHeld ?_ ?_
        rotate_left
        ·rintro w' ⟨s0,s1,s2,s3,s4⟩
         go_simp
         with_reducible rfl
        rotate_left
        ·simp only [Act.put,List.setIfInBounds_toArray,List.set_cons_zero,List.set_cons_succ,i64_w,i32_w]
         rfl
        refine take_ (i:=5) (N:=some 36) (v:=?_) (a':=?_) #[true,true,true,true,true,true,false,false,false,false] rfl rfl (take_ofW HT_.out HW_.out (by kernel_rfl)) (fun _ _ _ h=>h) (Or.inl ⟨by rfl,?_⟩) hHeld ?_ ?_
        rotate_left
        ·rintro w' ⟨s0,s1,s2,s3,s4⟩
         go_simp
         with_reducible rfl
        rotate_left
        ·simp only [Act.put,List.setIfInBounds_toArray,List.set_cons_zero,List.set_cons_succ,i64_w,i32_w]
         rfl
        refine pure_ (i:=6) (N:=some 37) (v:=?_) (a':=?_) #[true,true,true,true,true,true,true,false,false,false] rfl rfl (any_of HT_.out (by kernel_rfl)) (fun _ _ _ h=>h) (Or.inl ⟨by rfl,?_⟩) ?_ ?_
        rotate_left
        ·intro w'
         go_simp
         with_reducible rfl
        rotate_left
        ·simp only [Act.put,List.setIfInBounds_toArray,List.set_cons_zero,List.set_cons_succ,i64_w,i32_w]
         rfl
        refine pure_ (i:=7) (N:=some 38) (v:=?_) (a':=?_) #[true,true,true,true,true,true,true,true,false,false] rfl rfl (any_of HT_.out (by kernel_rfl)) (fun _ _ _ h=>h) (Or.inl ⟨by rfl,?_⟩) ?_ ?_
        rotate_left
        ·intro w'
         go_simp
         with_reducible rfl
        rotate_left
        ·simp only [Act.put,List.setIfInBounds_toArray,List.set_cons_zero,List.set_cons_succ,i64_w,i32_w]
         rfl
        refine take_ (i:=8) (N:=some 39) (v:=?_) (a':=?_) #[true,true,true,true,true,true,true,true,true,false] rfl rfl (take_ofW HT_.out HW_.out (by kernel_rfl)) (fun _ _ _ h=>h) (Or.inl ⟨by rfl,?_⟩) hHeld ?_ ?_
        rotate_left
        ·rintro w' ⟨s0,s1,s2,s3,s4⟩
         go_simp
         with_reducible rfl
        rotate_left
        ·simp only [Act.put,List.setIfInBounds_toArray,List.set_cons_zero,List.set_cons_succ,i64_w,i32_w]
         rfl
        refine pure_ (i:=9) (N:=some 7) (v:=?_) (a':=?_) #[true,true,true,true,true,true,true,true,true,true] rfl rfl (any_of HT_.out (by kernel_rfl)) (fun _ _ _ h=>h) (Or.inl ⟨by rfl,?_⟩) ?_ ?_
        rotate_left
        ·intro w'
         go_simp
         with_reducible rfl
        rotate_left
        ·simp only [Act.put,List.setIfInBounds_toArray,List.set_cons_zero,List.set_cons_succ,i64_w,i32_w]
         rfl
        refine done_ (done_of HT_.out (by kernel_rfl)) ?_
        try go_wp2
        go_loopg [7] k1 (fun kq v7 w'=>∃ (x7_2:Int),v7=.int .i64 x7_2∧Zz (spec_l4Press.l1 kq t328 x5_1 x7_2 l0_0 x332000_1 (⟨#[]⟩:ByteArray) (-1) ((rT l0_0 (rd t328 x5_1)).f2)=some r)∧Zz (kq≤k1)∧Zz (Kd.R (Kd.int .i64) 3 w' w.heap.size (fun _=>True) (.slice (some ad332) t328.length co20) t328)∧Zz (Kd.R k69 69 w' w.heap.size (fun k_=>k_ ≠ gb334) u332000 x332000_1)∧Zz (w'.heap[gb323]?=some (.cells #[(.slice (some ad333) l0_0.length c0_0)] 24 (0,0)))∧Zz (w'.heap[gb324]?=some (.cells #[(.slice none 0 0)] 36 (0,0)))∧Zz (w'.heap[gb331]?=some (.cells #[u332000] 36 (0,0)))∧Zz (w'.heap[gb334]?=some (.cells #[.string (⟨#[]⟩:ByteArray),.int .i64 (-1),.bool ((rT l0_0 (rd t328 x5_1)).f2)] 69 (0,0)))∧Zz (Below w.heap.size w w'))
        case atStart=>exact ⟨((rT l0_0 (rd t328 x5_1)).f1),(by first|rfl|(simp;done)|(simp [*];done)),H',⟨Nat.le_refl _⟩,⟨by (with_reducible repeat first|apply Kd.R_alloc|apply Kd.R_drewN|apply Kd.R_drew);exact HO_4.out⟩,⟨by (with_reducible repeat first|apply Kd.R_alloc|apply Kd.R_drewN|apply Kd.R_drew);exact HO_332000.out⟩,⟨by (with_reducible repeat first|apply bN|apply bD|apply bA);exact BK323.out⟩,⟨by (with_reducible repeat first|apply bN|apply bD|apply bA);exact BK324.out⟩,⟨by (with_reducible repeat first|apply bN|apply bD|apply bA);exact BK331.out⟩,⟨by (with_reducible repeat first|apply bN|apply bD|apply bA);exact BK334.out⟩,⟨by repeat (first|(with_reducible first|exact HB.out|apply qA|apply qN|apply q1_|refine qS ?_ GE323.out|refine qS ?_ GE324.out|refine qS ?_ GE331.out|refine qS ?_ GE334.out)|exact HB.out)⟩⟩
        case round =>
         clear H'
         try clear c1
         try clear c2
         try clear p2
         try clear p3
         try clear q3
         try clear hx3
         try clear c4
         try clear c8
         try clear c12
         try clear c13
         try clear c15
         try clear c15b0
         try clear c16
         try clear c16b0
         try clear c17
         try clear c17b0
         try clear c18
         try clear c18b0
         try clear c19
         try clear c19b0
         try clear c25
         try clear hcz14_0
         try clear hcz9_0
         try clear hfz14_0
         try clear hfz9_0
         try clear hx332_0
         try clear hx333_0
         try clear hx333_1
         try clear hx333_2
         try clear hx335_0
         try clear hx336_0
         try clear hx336_1
         try clear hx336_2
         try clear p2
         try clear p332
         try clear p333
         try clear p335
         try clear p336
         try clear q332
         try clear q333
         try clear q335
         try clear q336
         obtain ⟨x7_2,rfl,HA,HK2,HO_4,HO_332000,BK323,BK324,BK331,BK334,HB⟩:=hrel
         cases gk with
         | zero=>exact absurd HA.out (by simp [spec_l4Press.l1])
         | succ k2 =>
          have H:=HA.out
          clear HA
          simp only [spec_l4Press.l1] at H
          replace H:=Option.bind_eq_some_iff.mp H
          obtain ⟨t337,A280,H⟩:=H
          replace H:(if t337=true then (if 0≤x5_1 then (if x5_1<(t328.length:Int) then ((spec_l2Prefix.f k2 l0_0 (rd t328 x5_1)).bind fun t340=>((spec_l2Prefix.f k2 l0_0 x7_2).bind fun t341=>(if 0≤(t341.size:Int) then (if (t341.size:Int)≤(t340.size:Int) then (spec_l4Press.l2 k2 t328 x5_1 x7_2 0 l0_0 x332000_1 (t340.extract ((t341.size:Int):Int).toNat t340.size) (-1) ((rT l0_0 (rd t328 x5_1)).f2)) else (none)) else (none)))) else (none)) else (none)) else (if 0≤x7_2 then (if x7_2<(l0_0.length:Int) then (spec_l4Press.l1 k2 t328 x5_1 ((rT l0_0 x7_2).f1) l0_0 x332000_1 (⟨#[]⟩:ByteArray) (-1) ((rT l0_0 (rd t328 x5_1)).f2)) else (none)) else (none)))=some r:=H
          have A28:=Zz.mk A280
          clear A280
          by_cases c29:t337=true
          ·subst c29
           have H1:(if 0≤x5_1 then (if x5_1<(t328.length:Int) then ((spec_l2Prefix.f k2 l0_0 (rd t328 x5_1)).bind fun t340=>((spec_l2Prefix.f k2 l0_0 x7_2).bind fun t341=>(if 0≤(t341.size:Int) then (if (t341.size:Int)≤(t340.size:Int) then (spec_l4Press.l2 k2 t328 x5_1 x7_2 0 l0_0 x332000_1 (t340.extract ((t341.size:Int):Int).toNat t340.size) (-1) ((rT l0_0 (rd t328 x5_1)).f2)) else (none)) else (none)))) else (none)) else (none))=some r:=by rw [if_pos rfl] at H;exact H
           clear H
           have H:=H1
           clear H1
           by_cases c30:0≤x5_1
           ·rw [if_pos c30] at H
            have c30b0:decide (0≤x5_1)=true:=decide_eq_true c30
            clear c30
            by_cases c31:x5_1<(t328.length:Int)
            ·rw [if_pos c31] at H
             have c31b0:decide (x5_1<(t328.length:Int))=true:=decide_eq_true c31
             clear c31
             replace H:=Option.bind_eq_some_iff.mp H
             obtain ⟨t340,A320,H⟩:=H
             replace H:((spec_l2Prefix.f k2 l0_0 x7_2).bind fun t341=>(if 0≤(t341.size:Int) then (if (t341.size:Int)≤(t340.size:Int) then (spec_l4Press.l2 k2 t328 x5_1 x7_2 0 l0_0 x332000_1 (t340.extract ((t341.size:Int):Int).toNat t340.size) (-1) ((rT l0_0 (rd t328 x5_1)).f2)) else (none)) else (none)))=some r:=H
             have A32:=Zz.mk A320
             clear A320
             replace H:=Option.bind_eq_some_iff.mp H
             obtain ⟨t341,A330,H⟩:=H
             replace H:(if 0≤(t341.size:Int) then (if (t341.size:Int)≤(t340.size:Int) then (spec_l4Press.l2 k2 t328 x5_1 x7_2 0 l0_0 x332000_1 (t340.extract ((t341.size:Int):Int).toNat t340.size) (-1) ((rT l0_0 (rd t328 x5_1)).f2)) else (none)) else (none))=some r:=H
             have A33:=Zz.mk A330
             clear A330
             by_cases c34:0≤(t341.size:Int)
             ·rw [if_pos c34] at H
              have c34b0:=eq_true c34
              have c34b1:decide (0≤(t341.size:Int))=true:=decide_eq_true c34
              clear c34
              by_cases c35:(t341.size:Int)≤(t340.size:Int)
              ·rw [if_pos c35] at H
               have c35b0:=eq_true c35
               have c35b1:decide ((t341.size:Int)≤(t340.size:Int))=true:=decide_eq_true c35
               clear c35
               have H':=Zz.mk H
               clear H
               have hnb36:=NB323_324.out
               have hnc36:=NB324_323.out
               have hnb37:=NB323_331.out
               have hnc37:=NB331_323.out
               have hnb38:=NB323_334.out
               have hnc38:=NB334_323.out
               have hcz39_0:wr.cell? ⟨gb323,0,none⟩=some (.slice (some ad333) l0_0.length c0_0):=(bC BK323.out 0).trans rfl
               have hfz39_0:=bF BK323.out 0
               try go_wp2_with (first|((with_reducible refine gate_callee (f:=44) rfl ?_);refine goesL_ (some 42) rfl rfl Try.func44 (by kernel_rfl) rfl #[.agg #[.slice (some ad333) l0_0.length c0_0],.int .i64 x7_2] rfl (by (try simp only [List.map_toArray,List.map_cons,List.map_nil]);first|done|rfl|(simp only [List.length_drop,List.length_take];rfl)) ?_;(with_reducible refine (spec_l4Stays.calls k2 _ _ l0_0 x7_2 true _ ?side1 ?side2 A28.out).mono ?_);(case side1=>repeat (first|exact (Kd.C_below HR0_0.out HB.out)|(with_reducible refine Kd.C_alloc ?_ _)|(with_reducible refine Kd.C_drewN ?_ _)|(with_reducible refine Kd.C_drew ?_)));(case side2=>exact HC0_0.out);rintro e w40 ⟨rfl,hb⟩;refine ⟨_,rfl,?_⟩;have n0_:=Zz.mk (Kd.R_below (by (with_reducible repeat first|apply Kd.R_alloc|apply Kd.R_drewN|apply Kd.R_drew);exact HO_4.out) hb);have n1_:=Zz.mk (Kd.R_below (by (with_reducible repeat first|apply Kd.R_alloc|apply Kd.R_drewN|apply Kd.R_drew);exact HO_332000.out) hb);have n2_:=Zz.mk (bB (g:=gb323) (o:=.cells #[.slice (some ad333) l0_0.length c0_0] 24 (0,0)) (by (with_reducible repeat first|apply bN|apply bD|apply bA);exact BK323.out) hb);have n3_:=Zz.mk (bB (g:=gb324) (o:=.cells #[.slice none 0 0] 36 (0,0)) (by (with_reducible repeat first|apply bN|apply bD|apply bA);exact BK324.out) hb);have n4_:=Zz.mk (bB (g:=gb331) (o:=.cells #[u332000] 36 (0,0)) (by (with_reducible repeat first|apply bN|apply bD|apply bA);exact BK331.out) hb);have n5_:=Zz.mk (bB (g:=gb334) (o:=.cells #[.string (⟨#[]⟩:ByteArray),.int .i64 (-1),.bool ((rT l0_0 (rd t328 x5_1)).f2)] 69 (0,0)) (by (with_reducible repeat first|apply bN|apply bD|apply bA);exact BK334.out) hb);have n6_:=Zz.mk (qP (by repeat (first|(with_reducible first|exact HB.out|apply qA|apply qN|apply q1_|refine qS ?_ GE323.out|refine qS ?_ GE324.out|refine qS ?_ GE331.out|refine qS ?_ GE334.out)|exact HB.out)) hb);clear HO_4;clear HO_332000;clear BK323;clear BK324;clear BK331;clear BK334;clear HB;have HO_4:=n0_;have HO_332000:=n1_;have BK323:=n2_;have BK324:=n3_;have BK331:=n4_;have BK334:=n5_;have HB:=n6_;clear n0_ n1_ n2_ n3_ n4_ n5_ n6_;(try clear hb);(try clear hb2);(try clear hk);(try clear hi)))
               have n0_:=Zz.mk (Kd.R_drew HO_4.out)
               have n1_:=Zz.mk (Kd.R_drew HO_332000.out)
               have n2_:=Zz.mk (bD BK323.out)
               have n3_:=Zz.mk (bD BK324.out)
               have n4_:=Zz.mk (bD BK331.out)
               have n5_:=Zz.mk (bD BK334.out)
               have n6_:=Zz.mk (q1_ HB.out)
               revert n0_ n1_ n2_ n3_ n4_ n5_ n6_
               clear HO_4 HO_332000 BK323 BK324 BK331 BK334 HB
               intro HO_4 HO_332000 BK323 BK324 BK331 BK334 HB
               have p339:0≤(x5_1:Int):=of_decide_eq_true (by first|(with_reducible assumption)|assumption)
               have q339:x5_1<(t328.length:Int):=of_decide_eq_true (by first|(with_reducible assumption)|assumption)
               obtain ⟨ad339,e339,hx339_0⟩:=Kd.at_int (Kd.R_reads' HO_4.out).2.2 x5_1 p339 q339
               obtain rfl:ad332=ad339:=(by injection e339)
               replace p339:=eq_true p339
               replace q339:=eq_true q339
               refine start_ (n:=13) (S:=fun w'=>w'.cell? ⟨gb323,0,none⟩=some (.slice (some ad333) l0_0.length c0_0)∧w'.cell? (ad332.add (x5_1).toNat)=some (.int .i64 (rd t328 x5_1))) (ds:=[]) #[false,false,false,false,false,false,false,false,false,false,false,false,false] (by kernel_rfl) rfl rfl ⟨(bC BK323.out 0).trans rfl,hx339_0⟩ (fun hHeld=>?_);refine with_tabW spec_l4Press.tab10 spec_l4Press.bits10 (fun HT_ HW_=>?_)
               generalize w40.drew=w41 at HO_4 HO_332000 BK323 BK324 BK331 BK334 HB hx339_0 hHeld ⊢
               refine pure_ (i:=1) (N:=some 51) (v:=?_) (a':=?_) #[false,true,false,false,false,false,false,false,false,false,false,false,false] rfl rfl (any_of HT_.out (by kernel_rfl)) (fun _ _ _ h=>h) (Or.inl ⟨by rfl,?_⟩) ?_ ?_
               rotate_left
               ·intro w'
                go_simp
                with_reducible rfl
               rotate_left
               ·simp only [Act.put,List.setIfInBounds_toArray,List.set_cons_zero,List.set_cons_succ,i64_w,i32_w]
                rfl
               refine pure_ (i:=2) (N:=some 52) (v:=?_) (a':=?_) #[false,true,true,false,false,false,false,false,false,false,false,false,false] rfl rfl (any_of HT_.out (by kernel_rfl)) (fun _ _ _ h=>h) (Or.inl ⟨by rfl,?_⟩) ?_ ?_
               rotate_left
               ·intro w'
                go_simp
                with_reducible rfl
               rotate_left
               ·simp only [Act.put,List.setIfInBounds_toArray,List.set_cons_zero,List.set_cons_succ,i64_w,i32_w]
                rfl
               refine pure_ (i:=3) (N:=some 53) (v:=?_) (a':=?_) #[false,true,true,true,false,false,false,false,false,false,false,false,false] rfl rfl (any_of HT_.out (by kernel_rfl)) (fun _ _ _ h=>h) (Or.inl ⟨by rfl,?_⟩) ?_ ?_
               rotate_left
               ·intro w'
                go_simp
                with_reducible rfl
               rotate_left
               ·simp only [Act.put,List.setIfInBounds_toArray,List.set_cons_zero,List.set_cons_succ,i64_w,i32_w]
                rfl
               refine pure_ (i:=7) (N:=some 57) (v:=?_) (a':=?_) #[false,true,true,true,false,false,false,true,false,false,false,false,false] rfl rfl (any_of HT_.out (by kernel_rfl)) (fun _ _ _ h=>h) (Or.inl ⟨by rfl,?_⟩) ?_ ?_
               rotate_left
               ·intro w'
                go_simp
                with_reducible rfl
               rotate_left
               ·simp only [Act.put,List.setIfInBounds_toArray,List.set_cons_zero,List.set_cons_succ,i64_w,i32_w]
                rfl
               refine take_ (i:=0) (N:=some 50) (v:=?_) (a':=?_) #[true,true,true,true,false,false,false,true,false,false,false,false,false] rfl rfl (take_ofW HT_.out HW_.out (by kernel_rfl)) (fun _ _ _ h=>h) (Or.inl ⟨by rfl,?_⟩) hHeld ?_ ?_
               rotate_left
               ·rintro w' ⟨s0,s1⟩
                go_simp
                with_reducible rfl
               rotate_left
               ·simp only [Act.put,List.setIfInBounds_toArray,List.set_cons_zero,List.set_cons_succ,i64_w,i32_w]
                rfl
               refine take_ (i:=4) (N:=some 54) (v:=?_) (a':=?_) #[true,true,true,true,true,false,false,true,false,false,false,false,false] rfl rfl (take_ofW HT_.out HW_.out (by kernel_rfl)) (fun _ _ _ h=>h) (Or.inl ⟨by rfl,?_⟩) hHeld ?_ ?_
               rotate_left
               ·rintro w' ⟨s0,s1⟩
                go_simp
                with_reducible rfl
               rotate_left
               ·simp only [Act.put,List.setIfInBounds_toArray,List.set_cons_zero,List.set_cons_succ,i64_w,i32_w]
                rfl
               refine take_ (i:=6) (N:=some 56) (v:=?_) (a':=?_) #[true,true,true,true,true,false,true,true,false,false,false,false,false] rfl rfl (take_ofW HT_.out HW_.out (by kernel_rfl)) (fun _ _ _ h=>h) (Or.inl ⟨by rfl,?_⟩) hHeld ?_ ?_
               rotate_left
               ·rintro w' ⟨s0,s1⟩
                go_simp
                with_reducible rfl
               rotate_left
               ·simp only [Act.put,List.setIfInBounds_toArray,List.set_cons_zero,List.set_cons_succ,i64_w,i32_w]
                rfl
               refine one_ (i:=5) (N:=some 55) #[true,true,true,true,true,true,true,true,false,false,false,false,false] rfl rfl (one_of HT_.out (by kernel_rfl)) (by decide) (fun K hK=>?_)
               refine goes_ Try.func45 (by kernel_rfl) rfl #[.agg #[.slice (some ad333) l0_0.length c0_0],.int .i64 (rd t328 x5_1)] (by rfl) rfl rfl (by (try simp only [List.map_toArray,List.map_cons,List.map_nil]);first|done|rfl|(simp only [List.length_drop,List.length_take];rfl)) ?_
               with_reducible refine (spec_l2Prefix.calls k2 _ _ l0_0 (rd t328 x5_1) t340 _ ?side1 ?side2 A32.out).mono ?_
               (case side1=>exact (Kd.C_below HR0_0.out HB.out))
               (case side2=>exact HC0_0.out)
               rintro e w42 ⟨rfl,hb⟩
               have HS1_:=(hb.cell (World.block_lt_of_cell? _ _ (hHeld.2))).trans (hHeld.2)
               refine ⟨_,rfl,?_⟩
               have n0_:=Zz.mk (Kd.R_below HO_4.out hb)
               have n1_:=Zz.mk (Kd.R_below HO_332000.out hb)
               have n2_:=Zz.mk (bB BK323.out hb)
               have n3_:=Zz.mk (bB BK324.out hb)
               have n4_:=Zz.mk (bB BK331.out hb)
               have n5_:=Zz.mk (bB BK334.out hb)
               have n6_:=Zz.mk (qP HB.out hb)
               revert n0_ n1_ n2_ n3_ n4_ n5_ n6_
               clear HO_4 HO_332000 BK323 BK324 BK331 BK334 HB
               intro HO_4 HO_332000 BK323 BK324 BK331 BK334 HB
               (try clear hb)
               (try clear hb2)
               (try clear hk)
               (try clear hi)
               refine hK.out _ _ ⟨(bC BK323.out 0).trans rfl,HS1_⟩ (fun hHeld=>?_)
               clear hK K
               refine norm_ (a':=?_) ?_ ?_
               rotate_left
               ·show Act.put _ (some 55) _=_
                simp only [Act.put,List.setIfInBounds_toArray,List.set_cons_zero,List.set_cons_succ,i64_w,i32_w]
                rfl
               refine one_ (i:=8) (N:=some 58) #[true,true,true,true,true,true,true,true,true,false,false,false,false] rfl rfl (one_of HT_.out (by kernel_rfl)) (by decide) (fun K hK=>?_)
               refine goes_ Try.func45 (by kernel_rfl) rfl #[.agg #[.slice (some ad333) l0_0.length c0_0],.int .i64 x7_2] (by rfl) rfl rfl (by (try simp only [List.map_toArray,List.map_cons,List.map_nil]);first|done|rfl|(simp only [List.length_drop,List.length_take];rfl)) ?_
               with_reducible refine (spec_l2Prefix.calls k2 _ _ l0_0 x7_2 t341 _ ?side1 ?side2 A33.out).mono ?_
               (case side1=>exact (Kd.C_below HR0_0.out HB.out))
               (case side2=>exact HC0_0.out)
               rintro e w43 ⟨rfl,hb⟩
               have HS1_:=(hb.cell (World.block_lt_of_cell? _ _ (hHeld.2))).trans (hHeld.2)
               refine ⟨_,rfl,?_⟩
               have n0_:=Zz.mk (Kd.R_below HO_4.out hb)
               have n1_:=Zz.mk (Kd.R_below HO_332000.out hb)
               have n2_:=Zz.mk (bB BK323.out hb)
               have n3_:=Zz.mk (bB BK324.out hb)
               have n4_:=Zz.mk (bB BK331.out hb)
               have n5_:=Zz.mk (bB BK334.out hb)
               have n6_:=Zz.mk (qP HB.out hb)
               revert n0_ n1_ n2_ n3_ n4_ n5_ n6_
               clear HO_4 HO_332000 BK323 BK324 BK331 BK334 HB
               intro HO_4 HO_332000 BK323 BK324 BK331 BK334 HB
               (try clear hb)
               (try clear hb2)
               (try clear hk)
               (try clear hi)
               refine hK.out _ _ ⟨(bC BK323.out 0).trans rfl,HS1_⟩ (fun hHeld=>?_)
               clear hK K
               refine norm_ (a':=?_) ?_ ?_
               rotate_left
               ·show Act.put _ (some 58) _=_
                simp only [Act.put,List.setIfInBounds_toArray,List.set_cons_zero,List.set_cons_succ,i64_w,i32_w]
                rfl
               refine pure_ (i:=9) (N:=some 59) (v:=?_) (a':=?_) #[true,true,true,true,true,true,true,true,true,true,false,false,false] rfl rfl (any_of HT_.out (by kernel_rfl)) (fun _ _ _ h=>h) (Or.inl ⟨by rfl,?_⟩) ?_ ?_
               rotate_left
               ·intro w'
                go_simp
                with_reducible rfl
               rotate_left
               ·simp only [Act.put,List.setIfInBounds_toArray,List.set_cons_zero,List.set_cons_succ,i64_w,i32_w]
                rfl
               refine pure_ (i:=10) (N:=some 60) (v:=?_) (a':=?_) #[true,true,true,true,true,true,true,true,true,true,true,false,false] rfl rfl (any_of HT_.out (by kernel_rfl)) (fun _ _ _ h=>h) (Or.inl ⟨by rfl,?_⟩) ?_ ?_
               rotate_left
               ·intro w'
                go_simp
                with_reducible rfl
               rotate_left
               ·simp only [Act.put,List.setIfInBounds_toArray,List.set_cons_zero,List.set_cons_succ,i64_w,i32_w]
                rfl
               refine pure_ (i:=11) (N:=some 61) (v:=?_) (a':=?_) #[true,true,true,true,true,true,true,true,true,true,true,true,false] rfl rfl (any_of HT_.out (by kernel_rfl)) (fun _ _ _ h=>h) (Or.inl ⟨by rfl,?_⟩) ?_ ?_
               rotate_left
               ·intro w'
                go_simp
                with_reducible rfl
               rotate_left
               ·simp only [Act.put,List.setIfInBounds_toArray,List.set_cons_zero,List.set_cons_succ,i64_w,i32_w]
                rfl
               refine one_ (i:=12) (N:=none) #[true,true,true,true,true,true,true,true,true,true,true,true,true] rfl rfl (one_of HT_.out (by kernel_rfl)) (by decide) (fun K hK=>?_)
               have hs44:w43.cell? ⟨gb334,0,none⟩=some (.string (⟨#[]⟩:ByteArray)):=(bC BK334.out 0).trans rfl
               have hfs44:=bF BK334.out 0
               have hns44_0:=NB323_334.out
               have hns44_1:=NB324_334.out
               have hns44_2:=NB331_334.out
               have hms44_0:=NB334_323.out
               have hms44_1:=NB334_324.out
               have hms44_2:=NB334_331.out
               refine skip_ (w1:=?_) (by rfl) rfl ?_ ?_
               rotate_left
               ·go_simp
                rfl
               refine hK.out _ _ ⟨((cell_far (p:=⟨gb334,_,none⟩) NB323_334.out _).trans (hHeld.1)),((cell_far (p:=⟨gb334,_,none⟩) (by first|exact Kd.own_blk (Kd.R_ne HO_4.out BK334.out (by decide))|(rw [add_block];exact Kd.own_blk (Kd.R_ne HO_4.out BK334.out (by decide)))|(show (Addr.add _ _).block ≠ _;rw [add_block];exact Kd.own_blk (Kd.R_ne HO_4.out BK334.out (by decide)))|(dsimp only;exact Kd.own_blk (Kd.R_ne HO_4.out BK334.out (by decide)))) _).trans (hHeld.2))⟩ (fun hHeld=>?_)
               clear hK K
               refine done_ (done_of HT_.out (by kernel_rfl)) ?_
               try go_wp2
               go_loopg [8] k2 (fun kq v8 w'=>∃ (x8_3:Int) (x335001_3:Int),v8=.int .i64 x8_3∧Zz (spec_l4Press.l2 kq t328 x5_1 x7_2 x8_3 l0_0 x332000_1 (t340.extract ((t341.size:Int):Int).toNat t340.size) x335001_3 ((rT l0_0 (rd t328 x5_1)).f2)=some r)∧Zz (kq≤k2)∧Zz (Kd.R (Kd.int .i64) 3 w' w.heap.size (fun _=>True) (.slice (some ad332) t328.length co20) t328)∧Zz (Kd.R k69 69 w' w.heap.size (fun k_=>k_ ≠ gb334) u332000 x332000_1)∧Zz (w'.heap[gb323]?=some (.cells #[(.slice (some ad333) l0_0.length c0_0)] 24 (0,0)))∧Zz (w'.heap[gb324]?=some (.cells #[(.slice none 0 0)] 36 (0,0)))∧Zz (w'.heap[gb331]?=some (.cells #[u332000] 36 (0,0)))∧Zz (w'.heap[gb334]?=some (.cells #[.string (t340.extract ((t341.size:Int):Int).toNat t340.size),.int .i64 x335001_3,.bool ((rT l0_0 (rd t328 x5_1)).f2)] 69 (0,0)))∧Zz (Below w.heap.size w w'))
               case atStart=>exact ⟨(0),((-1)),(by first|rfl|(simp;done)|(simp [*];done)),H',⟨Nat.le_refl _⟩,⟨by (with_reducible repeat first|apply Kd.R_alloc|apply Kd.R_drewN|apply Kd.R_drew);exact Kd.R_mono (R_same_ (Kd.R_far (p:=⟨gb334,0,none⟩) (Kd.R_types HO_4.out BK334.out (by decide)) (fun _ hk=>hk.2) (.string (t340.extract ((t341.size:Int):Int).toNat t340.size))) rfl) (fun _ hk=>trivial)⟩,⟨by (with_reducible repeat first|apply Kd.R_alloc|apply Kd.R_drewN|apply Kd.R_drew);exact Kd.R_mono (R_same_ (Kd.R_far (p:=⟨gb334,0,none⟩) (Kd.R_mono HO_332000.out (fun k_ hk=>(⟨hk,hk⟩:_∧k_ ≠ gb334))) (fun _ hk=>hk.2) (.string (t340.extract ((t341.size:Int):Int).toNat t340.size))) rfl) (fun _ hk=>hk.1)⟩,⟨by (with_reducible repeat first|apply bN|apply bD|apply bA);refine blk_far ?_ NB323_334.out _;(with_reducible repeat first|apply bN|apply bD|apply bA);exact BK323.out⟩,⟨by (with_reducible repeat first|apply bN|apply bD|apply bA);refine blk_far ?_ NB324_334.out _;(with_reducible repeat first|apply bN|apply bD|apply bA);exact BK324.out⟩,⟨by (with_reducible repeat first|apply bN|apply bD|apply bA);refine blk_far ?_ NB331_334.out _;(with_reducible repeat first|apply bN|apply bD|apply bA);exact BK331.out⟩,⟨by (with_reducible repeat first|apply bN|apply bD|apply bA);refine blk_put (cs:=#[.string (⟨#[]⟩:ByteArray),.int .i64 (-1),.bool ((rT l0_0 (rd t328 x5_1)).f2)]) ?_ 0 _ rfl;(with_reducible repeat first|apply bN|apply bD|apply bA);exact BK334.out⟩,⟨by repeat (first|(with_reducible first|exact HB.out|apply qA|apply qN|apply q1_|refine qS ?_ GE323.out|refine qS ?_ GE324.out|refine qS ?_ GE331.out|refine qS ?_ GE334.out)|exact HB.out)⟩⟩
               case round =>
                clear H'
                try clear c1
                try clear c2
                try clear p2
                try clear c3
                try clear p3
                try clear q3
                try clear hx3
                try clear c4
                try clear c8
                try clear c12
                try clear c13
                try clear c15
                try clear c15b0
                try clear c16
                try clear c16b0
                try clear c17
                try clear c17b0
                try clear c18
                try clear c18b0
                try clear c19
                try clear c19b0
                try clear c25
                try clear c29
                try clear c30
                try clear c30b0
                try clear c31
                try clear c31b0
                try clear p33
                try clear q33
                try clear hx33
                try clear c34
                try clear c34b0
                try clear c34b1
                try clear c35
                try clear c35b0
                try clear c35b1
                try clear c36
                try clear c37
                try clear c38
                try clear c44
                try clear hcz14_0
                try clear hcz39_0
                try clear hcz9_0
                try clear hfz14_0
                try clear hfz39_0
                try clear hfz9_0
                try clear hx332_0
                try clear hx333_0
                try clear hx333_1
                try clear hx333_2
                try clear hx335_0
                try clear hx336_0
                try clear hx336_1
                try clear hx336_2
                try clear hx339_0
                try clear p2
                try clear p3
                try clear p332
                try clear p333
                try clear p335
                try clear p336
                try clear p339
                try clear q3
                try clear q332
                try clear q333
                try clear q335
                try clear q336
                try clear q339
                obtain ⟨x8_3,x335001_3,rfl,HA,HK3,HO_4,HO_332000,BK323,BK324,BK331,BK334,HB⟩:=hrel
                cases gk with
                | zero=>exact absurd HA.out (by simp [spec_l4Press.l2])
                | succ k3 =>
                 have H:=HA.out
                 clear HA
                 simp only [spec_l4Press.l2] at H
                 by_cases c45:x8_3<x5_1
                 ·rw [if_pos c45] at H
                  have c45b0:decide (x8_3<x5_1)=true:=decide_eq_true c45
                  clear c45
                  by_cases c46:0≤x8_3
                  ·rw [if_pos c46] at H
                   have c46b0:decide (0≤x8_3)=true:=decide_eq_true c46
                   clear c46
                   by_cases c47:x8_3<(t328.length:Int)
                   ·rw [if_pos c47] at H
                    have c47b0:decide (x8_3<(t328.length:Int))=true:=decide_eq_true c47
                    clear c47
                    by_cases c48:(rd t328 x8_3)=x7_2
                    ·rw [if_pos c48] at H
                     have c48b0:((rd t328 x8_3) == x7_2)=true:=beq_iff_eq.mpr c48
                     have c48b1:((rd t328 x8_3) != x7_2)=false:=bne_eq_false_iff_eq.mpr c48
                     clear c48
                     have H':=Zz.mk H
                     clear H
                     have p342:0≤(x8_3:Int):=of_decide_eq_true (by first|(with_reducible assumption)|assumption)
                     have q342:x8_3<(t328.length:Int):=of_decide_eq_true (by first|(with_reducible assumption)|assumption)
                     obtain ⟨ad342,e342,hx342_0⟩:=Kd.at_int (Kd.R_reads' HO_4.out).2.2 x8_3 p342 q342
                     obtain rfl:ad332=ad342:=(by injection e342)
                     replace p342:=eq_true p342
                     replace q342:=eq_true q342
                     have hnb49:=NB334_323.out
                     have hnc49:=NB323_334.out
                     have hnb50:=NB334_324.out
                     have hnc50:=NB324_334.out
                     have hnb51:=NB334_331.out
                     have hnc51:=NB331_334.out
                     have hcz52_0:wr.cell? ⟨gb334,0,none⟩=some (.string (t340.extract ((t341.size:Int):Int).toNat t340.size)):=(bC BK334.out 0).trans rfl
                     have hcz52_1:wr.cell? ⟨gb334,1,none⟩=some (.int .i64 x335001_3):=(bC BK334.out 1).trans rfl
                     have hcz52_2:wr.cell? ⟨gb334,2,none⟩=some (.bool ((rT l0_0 (rd t328 x5_1)).f2)):=(bC BK334.out 2).trans rfl
                     have hfz52_0:=bF BK334.out 0
                     have hfz52_1:=bF BK334.out 1
                     have hfz52_2:=bF BK334.out 2
                     go_wp2
                     go_roundg k3
                     case measure=>have:=HK1.out;have:=HK2.out;have:=HK3.out;omega
                     case rel=>exact ⟨(wrap64 (x8_3+1)),(x8_3),(by first|rfl|(simp;done)|(simp [*];done)),H',⟨by have:=HK1.out;have:=HK2.out;have:=HK3.out;omega⟩,⟨by (with_reducible repeat first|apply Kd.R_alloc|apply Kd.R_drewN|apply Kd.R_drew);exact Kd.R_mono (R_same_ (Kd.R_far (p:=⟨gb334,1,none⟩) (Kd.R_types HO_4.out BK334.out (by decide)) (fun _ hk=>hk.2) (.int .i64 x8_3)) rfl) (fun _ hk=>trivial)⟩,⟨by (with_reducible repeat first|apply Kd.R_alloc|apply Kd.R_drewN|apply Kd.R_drew);exact Kd.R_mono (R_same_ (Kd.R_far (p:=⟨gb334,1,none⟩) (Kd.R_mono HO_332000.out (fun k_ hk=>(⟨hk,hk⟩:_∧k_ ≠ gb334))) (fun _ hk=>hk.2) (.int .i64 x8_3)) rfl) (fun _ hk=>hk.1)⟩,⟨by (with_reducible repeat first|apply bN|apply bD|apply bA);refine blk_far ?_ NB323_334.out _;(with_reducible repeat first|apply bN|apply bD|apply bA);exact BK323.out⟩,⟨by (with_reducible repeat first|apply bN|apply bD|apply bA);refine blk_far ?_ NB324_334.out _;(with_reducible repeat first|apply bN|apply bD|apply bA);exact BK324.out⟩,⟨by (with_reducible repeat first|apply bN|apply bD|apply bA);refine blk_far ?_ NB331_334.out _;(with_reducible repeat first|apply bN|apply bD|apply bA);exact BK331.out⟩,⟨by (with_reducible repeat first|apply bN|apply bD|apply bA);refine blk_put (cs:=#[.string (t340.extract ((t341.size:Int):Int).toNat t340.size),.int .i64 x335001_3,.bool ((rT l0_0 (rd t328 x5_1)).f2)]) ?_ 1 _ rfl;(with_reducible repeat first|apply bN|apply bD|apply bA);exact BK334.out⟩,⟨by repeat (first|(with_reducible first|exact HB.out|apply qA|apply qN|apply q1_|refine qS ?_ GE323.out|refine qS ?_ GE324.out|refine qS ?_ GE331.out|refine qS ?_ GE334.out)|exact HB.out)⟩⟩
                    ·rw [if_neg c48] at H
                     have c48b0:((rd t328 x8_3) == x7_2)=false:=beq_eq_false_iff_ne.mpr c48
                     have c48b1:((rd t328 x8_3) != x7_2)=true:=bne_iff_ne.mpr c48
                     have H':=Zz.mk H
                     clear H
                     have p342:0≤(x8_3:Int):=of_decide_eq_true (by first|(with_reducible assumption)|assumption)
                     have q342:x8_3<(t328.length:Int):=of_decide_eq_true (by first|(with_reducible assumption)|assumption)
                     obtain ⟨ad342,e342,hx342_0⟩:=Kd.at_int (Kd.R_reads' HO_4.out).2.2 x8_3 p342 q342
                     obtain rfl:ad332=ad342:=(by injection e342)
                     replace p342:=eq_true p342
                     replace q342:=eq_true q342
                     go_wp2
                     go_roundg k3
                     case measure=>have:=HK1.out;have:=HK2.out;have:=HK3.out;omega
                     case rel=>exact ⟨(wrap64 (x8_3+1)),(x335001_3),(by first|rfl|(simp;done)|(simp [*];done)),H',⟨by have:=HK1.out;have:=HK2.out;have:=HK3.out;omega⟩,⟨by (with_reducible repeat first|apply Kd.R_alloc|apply Kd.R_drewN|apply Kd.R_drew);exact HO_4.out⟩,⟨by (with_reducible repeat first|apply Kd.R_alloc|apply Kd.R_drewN|apply Kd.R_drew);exact HO_332000.out⟩,⟨by (with_reducible repeat first|apply bN|apply bD|apply bA);exact BK323.out⟩,⟨by (with_reducible repeat first|apply bN|apply bD|apply bA);exact BK324.out⟩,⟨by (with_reducible repeat first|apply bN|apply bD|apply bA);exact BK331.out⟩,⟨by (with_reducible repeat first|apply bN|apply bD|apply bA);exact BK334.out⟩,⟨by repeat (first|(with_reducible first|exact HB.out|apply qA|apply qN|apply q1_|refine qS ?_ GE323.out|refine qS ?_ GE324.out|refine qS ?_ GE331.out|refine qS ?_ GE334.out)|exact HB.out)⟩⟩
                   ·rw [if_neg c47] at H
                    exact absurd H (by simp)
                  ·rw [if_neg c46] at H
                   exact absurd H (by simp)
                 ·rw [if_neg c45] at H
                  have c45b0:decide (x8_3<x5_1)=false:=decide_eq_false c45
                  clear c45
                  by_cases c53:x332000_1.length<4398046511104
                  ·rw [if_pos c53] at H
                   have LMc53:=Zz.mk c53
                   clear c53
                   obtain ⟨y343,hy343⟩:∃ y_:List (S69),y_=(x332000_1 ++ [(⟨(t340.extract ((t341.size:Int):Int).toNat t340.size),x335001_3,((rT l0_0 (rd t328 x5_1)).f2)⟩:S69)]):=⟨_,rfl⟩
                   replace H:(spec_l4Press.l0 k3 t328 (wrap64 (x5_1+1)) l0_0 y343)=some r:=by first|(rw [hy343];with_reducible exact H)|(have H2_:=(Option.bind_some _ _).symm.trans H;rw [hy343];with_reducible exact H2_)|(have H2_:=(Option.bind_some _ _).symm.trans H;with_reducible exact H2_)|with_reducible exact H|(rw [hy343];exact H)|exact H
                   have Ny343:=Zz.mk hy343
                   clear hy343
                   have H':=Zz.mk H
                   clear H
                   have hnb54:=NB331_323.out
                   have hnc54:=NB323_331.out
                   have hnb55:=NB331_324.out
                   have hnc55:=NB324_331.out
                   have hnb56:=NB331_334.out
                   have hnc56:=NB334_331.out
                   have hcz57_0:wr.cell? ⟨gb331,0,none⟩=some (u332000):=(bC BK331.out 0).trans rfl
                   have hfz57_0:=bF BK331.out 0
                   have hnb58:=NB334_323.out
                   have hnc58:=NB323_334.out
                   have hnb59:=NB334_324.out
                   have hnc59:=NB324_334.out
                   have hcz60_0:wr.cell? ⟨gb334,0,none⟩=some (.string (t340.extract ((t341.size:Int):Int).toNat t340.size)):=(bC BK334.out 0).trans rfl
                   have hcz60_1:wr.cell? ⟨gb334,1,none⟩=some (.int .i64 x335001_3):=(bC BK334.out 1).trans rfl
                   have hcz60_2:wr.cell? ⟨gb334,2,none⟩=some (.bool ((rT l0_0 (rd t328 x5_1)).f2)):=(bC BK334.out 2).trans rfl
                   have hfz60_0:=bF BK334.out 0
                   have hfz60_1:=bF BK334.out 1
                   have hfz60_2:=bF BK334.out 2
                   go_wp2_with (first|((with_reducible refine gate_builtin (b:=.append) (xs:=#[.tmp 76,.tmp 78]) rfl ?_);at_builtin;refine Kd.R_append k69 (w0:=w) w.heap.size rfl (.tmp 76) (.tmp 78) 34 69 (.agg #[(.string ⟨#[]⟩),(.int .i64 0),(.bool false)]) 32 rfl Try.underlying34 info69 rfl (by decide) (by omega) u332000 x332000_1 (⟨(t340.extract ((t341.size:Int):Int).toNat t340.size),x335001_3,((rT l0_0 (rd t328 x5_1)).f2)⟩:S69) [.string (t340.extract ((t341.size:Int):Int).toNat t340.size),.int .i64 x335001_3,.bool ((rT l0_0 (rd t328 x5_1)).f2)] (fun k_=>k_ ≠ gb334) (fun _=>False) rfl rfl ?aP (fun _ hk=>hk.elim) ?aF ?aO ?aB ?aS ?aL ?_;(case aP=>exact k69_mkM _ _ _ (⟨(t340.extract ((t341.size:Int):Int).toNat t340.size),x335001_3,((rT l0_0 (rd t328 x5_1)).f2)⟩:S69));(case aB=>exact (by repeat (first|(with_reducible first|exact HB.out|apply qA|apply qN|apply q1_|refine qS ?_ GE323.out|refine qS ?_ GE324.out|refine qS ?_ GE331.out|refine qS ?_ GE334.out)|exact HB.out)));(case aF=>exact (fun k_ hk=>Kd.freshB (g:=gb334) (o:=.cells #[.string (t340.extract ((t341.size:Int):Int).toNat t340.size),.int .i64 x335001_3,.bool ((rT l0_0 (rd t328 x5_1)).f2)] 69 (0,0)) (by (with_reducible repeat first|apply bN|apply bD|apply bA);exact BK334.out) k_ hk));(case aO=>exact (by (with_reducible repeat first|apply Kd.R_alloc|apply Kd.R_drewN|apply Kd.R_drew);exact HO_332000.out));(case aS=>exact (qZ (by repeat (first|(with_reducible first|exact HB.out|apply qA|apply qN|apply q1_|refine qS ?_ GE323.out|refine qS ?_ GE324.out|refine qS ?_ GE331.out|refine qS ?_ GE334.out)|exact HB.out))));(case aL=>have:=LMc53.out;omega);intro v344 w61 ho hb hg hat;rw [← Ny343.out] at ho;have n0_:=Zz.mk (Kd.R_over' (by (with_reducible repeat first|apply Kd.R_alloc|apply Kd.R_drewN|apply Kd.R_drew);exact HO_4.out) (Kd.R_typed (by (with_reducible repeat first|apply Kd.R_alloc|apply Kd.R_drewN|apply Kd.R_drew);exact HO_332000.out)) (by decide) hg);have n1_:=Zz.mk (blk_grown (g:=gb323) (o:=.cells #[.slice (some ad333) l0_0.length c0_0] 24 (0,0)) (by (with_reducible repeat first|apply bN|apply bD|apply bA);exact BK323.out) hg (Kd.R_ne HO_332000.out BK323.out (by decide)));have n2_:=Zz.mk (blk_grown (g:=gb324) (o:=.cells #[.slice none 0 0] 36 (0,0)) (by (with_reducible repeat first|apply bN|apply bD|apply bA);exact BK324.out) hg (Kd.R_ne HO_332000.out BK324.out (by decide)));have n3_:=Zz.mk (blk_grown (g:=gb331) (o:=.cells #[u332000] 36 (0,0)) (by (with_reducible repeat first|apply bN|apply bD|apply bA);exact BK331.out) hg (Kd.R_ne HO_332000.out BK331.out (by decide)));have n4_:=Zz.mk (blk_grown (g:=gb334) (o:=.cells #[.string (t340.extract ((t341.size:Int):Int).toNat t340.size),.int .i64 x335001_3,.bool ((rT l0_0 (rd t328 x5_1)).f2)] 69 (0,0)) (by (with_reducible repeat first|apply bN|apply bD|apply bA);exact BK334.out) hg (Kd.R_away HO_332000.out (fun _ hk=>hk)));have n5_:=Zz.mk (hb);have n6_:=Zz.mk (ho);clear HO_4;clear BK323;clear BK324;clear BK331;clear BK334;clear HB;clear HO_332000;have HO_4:=n0_;have BK323:=n1_;have BK324:=n2_;have BK331:=n3_;have BK334:=n4_;have HB:=n5_;have HO345:=n6_;clear n0_ n1_ n2_ n3_ n4_ n5_ n6_;clear ho hb hg hat;obtain ⟨Ao62,co62,eo62⟩:=Kd.R_slice HO345.out;subst eo62;have hcz63_0:w61.cell? ⟨gb331,0,none⟩=some (u332000):=(bC BK331.out 0).trans rfl;have hfz63_0:=bF BK331.out 0))
                   go_roundg k3
                   case measure=>have:=HK1.out;have:=HK2.out;have:=HK3.out;omega
                   case rel=>exact ⟨(wrap64 (x5_1+1)),(y343),(.slice Ao62 y343.length co62),(by first|rfl|(simp;done)|(simp [*];done)),H',⟨by have:=HK1.out;have:=HK2.out;have:=HK3.out;omega⟩,⟨by (with_reducible repeat first|apply Kd.R_alloc|apply Kd.R_drewN|apply Kd.R_drew);exact Kd.R_mono (R_same_ (Kd.R_far (p:=⟨gb331,0,none⟩) (Kd.R_types HO_4.out BK331.out (by decide)) (fun _ hk=>hk.2) (.slice Ao62 y343.length co62)) rfl) (fun _ hk=>trivial)⟩,⟨by (with_reducible repeat first|apply Kd.R_alloc|apply Kd.R_drewN|apply Kd.R_drew);exact Kd.R_mono (R_same_ (Kd.R_far (p:=⟨gb331,0,none⟩) (Kd.R_types HO345.out BK331.out (by decide)) (fun _ hk=>hk.2) (.slice Ao62 y343.length co62)) rfl) (fun _ hk=>trivial)⟩,⟨by (with_reducible repeat first|apply bN|apply bD|apply bA);refine blk_far ?_ NB323_331.out _;(with_reducible repeat first|apply bN|apply bD|apply bA);exact BK323.out⟩,⟨by (with_reducible repeat first|apply bN|apply bD|apply bA);refine blk_far ?_ NB324_331.out _;(with_reducible repeat first|apply bN|apply bD|apply bA);exact BK324.out⟩,⟨by (with_reducible repeat first|apply bN|apply bD|apply bA);refine blk_put (cs:=#[u332000]) ?_ 0 _ rfl;(with_reducible repeat first|apply bN|apply bD|apply bA);exact BK331.out⟩,⟨by repeat (first|(with_reducible first|exact HB.out|apply qA|apply qN|apply q1_|refine qS ?_ GE323.out|refine qS ?_ GE324.out|refine qS ?_ GE331.out|refine qS ?_ GE334.out)|exact HB.out)⟩⟩
                  ·rw [if_neg c53] at H
                   exact absurd H (by simp)
              ·rw [if_neg c35] at H
               exact absurd H (by simp)
             ·rw [if_neg c34] at H
              exact absurd H (by simp)
            ·rw [if_neg c31] at H
             exact absurd H (by simp)
           ·rw [if_neg c30] at H
            exact absurd H (by simp)
          ·replace c29:=Bool.eq_false_iff.mpr c29
           subst c29
           have H1:(if 0≤x7_2 then (if x7_2<(l0_0.length:Int) then (spec_l4Press.l1 k2 t328 x5_1 ((rT l0_0 x7_2).f1) l0_0 x332000_1 (⟨#[]⟩:ByteArray) (-1) ((rT l0_0 (rd t328 x5_1)).f2)) else (none)) else (none))=some r:=by rw [if_neg (show ¬ (false=true) by decide)] at H;exact H
           clear H
           have H:=H1
           clear H1
           by_cases c64:0≤x7_2
           ·rw [if_pos c64] at H
            have c64b0:decide (0≤x7_2)=true:=decide_eq_true c64
            clear c64
            by_cases c65:x7_2<(l0_0.length:Int)
            ·rw [if_pos c65] at H
             have c65b0:decide (x7_2<(l0_0.length:Int))=true:=decide_eq_true c65
             clear c65
             have H':=Zz.mk H
             clear H
             have hnb66:=NB323_324.out
             have hnc66:=NB324_323.out
             have hnb67:=NB323_331.out
             have hnc67:=NB331_323.out
             have hnb68:=NB323_334.out
             have hnc68:=NB334_323.out
             have hcz69_0:wr.cell? ⟨gb323,0,none⟩=some (.slice (some ad333) l0_0.length c0_0):=(bC BK323.out 0).trans rfl
             have hfz69_0:=bF BK323.out 0
             go_wp2_with (first|((with_reducible refine gate_callee (f:=44) rfl ?_);refine goesL_ (some 42) rfl rfl Try.func44 (by kernel_rfl) rfl #[.agg #[.slice (some ad333) l0_0.length c0_0],.int .i64 x7_2] rfl (by (try simp only [List.map_toArray,List.map_cons,List.map_nil]);first|done|rfl|(simp only [List.length_drop,List.length_take];rfl)) ?_;(with_reducible refine (spec_l4Stays.calls k2 _ _ l0_0 x7_2 false _ ?side1 ?side2 A28.out).mono ?_);(case side1=>repeat (first|exact (Kd.C_below HR0_0.out HB.out)|(with_reducible refine Kd.C_alloc ?_ _)|(with_reducible refine Kd.C_drewN ?_ _)|(with_reducible refine Kd.C_drew ?_)));(case side2=>exact HC0_0.out);rintro e w70 ⟨rfl,hb⟩;refine ⟨_,rfl,?_⟩;have n0_:=Zz.mk (Kd.R_below (by (with_reducible repeat first|apply Kd.R_alloc|apply Kd.R_drewN|apply Kd.R_drew);exact HO_4.out) hb);have n1_:=Zz.mk (Kd.R_below (by (with_reducible repeat first|apply Kd.R_alloc|apply Kd.R_drewN|apply Kd.R_drew);exact HO_332000.out) hb);have n2_:=Zz.mk (bB (g:=gb323) (o:=.cells #[.slice (some ad333) l0_0.length c0_0] 24 (0,0)) (by (with_reducible repeat first|apply bN|apply bD|apply bA);exact BK323.out) hb);have n3_:=Zz.mk (bB (g:=gb324) (o:=.cells #[.slice none 0 0] 36 (0,0)) (by (with_reducible repeat first|apply bN|apply bD|apply bA);exact BK324.out) hb);have n4_:=Zz.mk (bB (g:=gb331) (o:=.cells #[u332000] 36 (0,0)) (by (with_reducible repeat first|apply bN|apply bD|apply bA);exact BK331.out) hb);have n5_:=Zz.mk (bB (g:=gb334) (o:=.cells #[.string (⟨#[]⟩:ByteArray),.int .i64 (-1),.bool ((rT l0_0 (rd t328 x5_1)).f2)] 69 (0,0)) (by (with_reducible repeat first|apply bN|apply bD|apply bA);exact BK334.out) hb);have n6_:=Zz.mk (qP (by repeat (first|(with_reducible first|exact HB.out|apply qA|apply qN|apply q1_|refine qS ?_ GE323.out|refine qS ?_ GE324.out|refine qS ?_ GE331.out|refine qS ?_ GE334.out)|exact HB.out)) hb);clear HO_4;clear HO_332000;clear BK323;clear BK324;clear BK331;clear BK334;clear HB;have HO_4:=n0_;have HO_332000:=n1_;have BK323:=n2_;have BK324:=n3_;have BK331:=n4_;have BK334:=n5_;have HB:=n6_;clear n0_ n1_ n2_ n3_ n4_ n5_ n6_;(try clear hb);(try clear hb2);(try clear hk);(try clear hi);have hcz71_0:w70.cell? ⟨gb323,0,none⟩=some (.slice (some ad333) l0_0.length c0_0):=(bC BK323.out 0).trans rfl;have hfz71_0:=bF BK323.out 0;have p338:0≤(x7_2:Int):=of_decide_eq_true (by first|(with_reducible assumption)|assumption);have q338:x7_2<(l0_0.length:Int):=of_decide_eq_true (by first|(with_reducible assumption)|assumption);obtain ⟨ad338,e338,hx338_0,hx338_1,hx338_2⟩:=at_T62 HR0_0.out x7_2 p338 q338;obtain rfl:ad333=ad338:=(by injection e338);replace hx338_0:=(HB.out.cell (World.block_lt_of_cell? w _ hx338_0)).trans hx338_0;replace hx338_1:=(HB.out.cell (World.block_lt_of_cell? w _ hx338_1)).trans hx338_1;replace hx338_2:=(HB.out.cell (World.block_lt_of_cell? w _ hx338_2)).trans hx338_2;replace p338:=eq_true p338;replace q338:=eq_true q338))
             go_roundg k2
             case measure=>have:=HK1.out;have:=HK2.out;omega
             case rel=>exact ⟨((rT l0_0 x7_2).f1),(by first|rfl|(simp;done)|(simp [*];done)),H',⟨by have:=HK1.out;have:=HK2.out;omega⟩,⟨by (with_reducible repeat first|apply Kd.R_alloc|apply Kd.R_drewN|apply Kd.R_drew);exact HO_4.out⟩,⟨by (with_reducible repeat first|apply Kd.R_alloc|apply Kd.R_drewN|apply Kd.R_drew);exact HO_332000.out⟩,⟨by (with_reducible repeat first|apply bN|apply bD|apply bA);exact BK323.out⟩,⟨by (with_reducible repeat first|apply bN|apply bD|apply bA);exact BK324.out⟩,⟨by (with_reducible repeat first|apply bN|apply bD|apply bA);exact BK331.out⟩,⟨by (with_reducible repeat first|apply bN|apply bD|apply bA);exact BK334.out⟩,⟨by repeat (first|(with_reducible first|exact HB.out|apply qA|apply qN|apply q1_|refine qS ?_ GE323.out|refine qS ?_ GE324.out|refine qS ?_ GE331.out|refine qS ?_ GE334.out)|exact HB.out)⟩⟩
            ·rw [if_neg c65] at H
             exact absurd H (by simp)
           ·rw [if_neg c64] at H
            exact absurd H (by simp)
       ·rw [if_neg c19] at H
        have c19b0:decide (0<x5_1)=false:=decide_eq_false c19
        clear c19
        by_cases c72:x332000_1.length<4398046511104
        ·rw [if_pos c72] at H
         have LMc72:=Zz.mk c72
         clear c72
         obtain ⟨y346,hy346⟩:∃ y_:List (S69),y_=(x332000_1 ++ [(⟨(⟨#[]⟩:ByteArray),(-1),(rT l0_0 (rd t328 x5_1)).f2⟩:S69)]):=⟨_,rfl⟩
         replace H:(spec_l4Press.l0 k1 t328 (wrap64 (x5_1+1)) l0_0 y346)=some r:=by first|(rw [hy346];with_reducible exact H)|(have H2_:=(Option.bind_some _ _).symm.trans H;rw [hy346];with_reducible exact H2_)|(have H2_:=(Option.bind_some _ _).symm.trans H;with_reducible exact H2_)|with_reducible exact H|(rw [hy346];exact H)|exact H
         have Ny346:=Zz.mk hy346
         clear hy346
         have H':=Zz.mk H
         clear H
         obtain ⟨Ao73,co73,eo73⟩:=Kd.R_slice HO_4.out
         subst eo73
         try go_wp2
         have n0_:=Zz.mk (Kd.R_drew HO_4.out)
         have n1_:=Zz.mk (Kd.R_drew HO_332000.out)
         have n2_:=Zz.mk (bD BK323.out)
         have n3_:=Zz.mk (bD BK324.out)
         have n4_:=Zz.mk (bD BK331.out)
         have n5_:=Zz.mk (q1_ HB.out)
         revert n0_ n1_ n2_ n3_ n4_ n5_
         clear HO_4 HO_332000 BK323 BK324 BK331 HB
         intro HO_4 HO_332000 BK323 BK324 BK331 HB
         have p332:0≤(x5_1:Int):=of_decide_eq_true (by first|(with_reducible assumption)|assumption)
         have q332:x5_1<(t328.length:Int):=of_decide_eq_true (by first|(with_reducible assumption)|assumption)
         obtain ⟨ad332,e332,hx332_0⟩:=Kd.at_int (Kd.R_reads' HO_4.out).2.2 x5_1 p332 q332
         cases e332
         replace p332:=eq_true p332
         replace q332:=eq_true q332
         have p333:0≤((rd t328 x5_1):Int):=of_decide_eq_true (by first|(with_reducible assumption)|assumption)
         have q333:(rd t328 x5_1)<(l0_0.length:Int):=of_decide_eq_true (by first|(with_reducible assumption)|assumption)
         obtain ⟨ad333,e333,hx333_0,hx333_1,hx333_2⟩:=at_T62 HR0_0.out (rd t328 x5_1) p333 q333
         have hw333_2:=hx333_2
         have hw333_1:=hx333_1
         have hw333_0:=hx333_0
         cases e333
         replace hx333_0:=(HB.out.cell (World.block_lt_of_cell? w _ hx333_0)).trans hx333_0
         replace hx333_1:=(HB.out.cell (World.block_lt_of_cell? w _ hx333_1)).trans hx333_1
         replace hx333_2:=(HB.out.cell (World.block_lt_of_cell? w _ hx333_2)).trans hx333_2
         replace p333:=eq_true p333
         replace q333:=eq_true q333
         refine start_ (n:=12) (S:=fun w'=>w'.cell? ⟨gb323,0,none⟩=some (.slice (some ad333) l0_0.length c0_0)∧w'.cell? (ad332.add (x5_1).toNat)=some (.int .i64 (rd t328 x5_1))∧w'.cell? (ad333.add (((rd t328 x5_1)).toNat * 3))=some (.int .i64 ((rT l0_0 (rd t328 x5_1)).f0))∧w'.cell? ⟨(ad333.add (((rd t328 x5_1)).toNat * 3)).block,(ad333.add (((rd t328 x5_1)).toNat * 3)).off+1,none⟩=some (.int .i64 ((rT l0_0 (rd t328 x5_1)).f1))∧w'.cell? ⟨(ad333.add (((rd t328 x5_1)).toNat * 3)).block,(ad333.add (((rd t328 x5_1)).toNat * 3)).off+2,none⟩=some (.bool ((rT l0_0 (rd t328 x5_1)).f2))) (ds:=[]) #[false,false,false,false,false,false,false,false,false,false,false,false] (by kernel_rfl) rfl rfl ⟨(bC BK323.out 0).trans rfl,hx332_0,((HB.out.cell (World.block_lt_of_cell? w _ hw333_0)).trans hw333_0),((HB.out.cell (World.block_lt_of_cell? w _ hw333_1)).trans hw333_1),((HB.out.cell (World.block_lt_of_cell? w _ hw333_2)).trans hw333_2)⟩ (fun hHeld=>?_);refine with_tabW spec_l4Press.tab5 spec_l4Press.bits5 (fun HT_ HW_=>?_)
         generalize wr.drew=w74 at HO_4 HO_332000 BK323 BK324 BK331 HB hx332_0 hx333_0 hx333_1 hx333_2 hHeld ⊢
         refine pure_ (i:=0) (N:=some 19) (v:=?_) (a':=?_) #[true,false,false,false,false,false,false,false,false,false,false,false] rfl rfl (any_of HT_.out (by kernel_rfl)) (fun _ _ _ h=>h) (Or.inl ⟨by rfl,?_⟩) ?_ ?_
         rotate_left
         ·intro w'
          go_simp
          with_reducible rfl
         rotate_left
         ·simp only [Act.put,List.setIfInBounds_toArray,List.set_cons_zero,List.set_cons_succ,i64_w,i32_w]
          rfl
         refine pure_ (i:=2) (N:=some 21) (v:=?_) (a':=?_) #[true,false,true,false,false,false,false,false,false,false,false,false] rfl rfl (any_of HT_.out (by kernel_rfl)) (fun _ _ _ h=>h) (Or.inl ⟨by rfl,?_⟩) ?_ ?_
         rotate_left
         ·intro w'
          go_simp
          with_reducible rfl
         rotate_left
         ·simp only [Act.put,List.setIfInBounds_toArray,List.set_cons_zero,List.set_cons_succ,i64_w,i32_w]
          rfl
         refine pure_ (i:=3) (N:=some 22) (v:=?_) (a':=?_) #[true,false,true,true,false,false,false,false,false,false,false,false] rfl rfl (any_of HT_.out (by kernel_rfl)) (fun _ _ _ h=>h) (Or.inl ⟨by rfl,?_⟩) ?_ ?_
         rotate_left
         ·intro w'
          go_simp
          with_reducible rfl
         rotate_left
         ·simp only [Act.put,List.setIfInBounds_toArray,List.set_cons_zero,List.set_cons_succ,i64_w,i32_w]
          rfl
         refine pure_ (i:=4) (N:=some 23) (v:=?_) (a':=?_) #[true,false,true,true,true,false,false,false,false,false,false,false] rfl rfl (any_of HT_.out (by kernel_rfl)) (fun _ _ _ h=>h) (Or.inl ⟨by rfl,?_⟩) ?_ ?_
         rotate_left
         ·intro w'
          go_simp
          with_reducible rfl
         rotate_left
         ·simp only [Act.put,List.setIfInBounds_toArray,List.set_cons_zero,List.set_cons_succ,i64_w,i32_w]
          rfl
         refine take_ (i:=1) (N:=some 20) (v:=?_) (a':=?_) #[true,true,true,true,true,false,false,false,false,false,false,false] rfl rfl (take_ofW HT_.out HW_.out (by kernel_rfl)) (fun _ _ _ h=>h) (Or.inl ⟨by rfl,?_⟩) hHeld ?_ ?_
         rotate_left
         ·rintro w' ⟨s0,s1,s2,s3,s4⟩
          go_simp
          with_reducible rfl
         rotate_left
         ·simp only [Act.put,List.setIfInBounds_toArray,List.set_cons_zero,List.set_cons_succ,i64_w,i32_w]
          rfl
         refine take_ (i:=5) (N:=some 24) (v:=?_) (a':=?_) #[true,true,true,true,true,true,false,false,false,false,false,false] rfl rfl (take_ofW HT_.out HW_.out (by kernel_rfl)) (fun _ _ _ h=>h) (Or.inl ⟨by rfl,?_⟩) hHeld ?_ ?_
         rotate_left
         ·rintro w' ⟨s0,s1,s2,s3,s4⟩
          go_simp
          with_reducible rfl
         rotate_left
         ·simp only [Act.put,List.setIfInBounds_toArray,List.set_cons_zero,List.set_cons_succ,i64_w,i32_w]
          rfl
         refine pure_ (i:=6) (N:=some 25) (v:=?_) (a':=?_) #[true,true,true,true,true,true,true,false,false,false,false,false] rfl rfl (any_of HT_.out (by kernel_rfl)) (fun _ _ _ h=>h) (Or.inl ⟨by rfl,?_⟩) ?_ ?_
         rotate_left
         ·intro w'
          go_simp
          with_reducible rfl
         rotate_left
         ·simp only [Act.put,List.setIfInBounds_toArray,List.set_cons_zero,List.set_cons_succ,i64_w,i32_w]
          rfl
         refine pure_ (i:=7) (N:=some 26) (v:=?_) (a':=?_) #[true,true,true,true,true,true,true,true,false,false,false,false] rfl rfl (any_of HT_.out (by kernel_rfl)) (fun _ _ _ h=>h) (Or.inl ⟨by rfl,?_⟩) ?_ ?_
         rotate_left
         ·intro w'
          go_simp
          with_reducible rfl
         rotate_left
         ·simp only [Act.put,List.setIfInBounds_toArray,List.set_cons_zero,List.set_cons_succ,i64_w,i32_w]
          rfl
         refine take_ (i:=8) (N:=some 27) (v:=?_) (a':=?_) #[true,true,true,true,true,true,true,true,true,false,false,false] rfl rfl (take_ofW HT_.out HW_.out (by kernel_rfl)) (fun _ _ _ h=>h) (Or.inl ⟨by rfl,?_⟩) hHeld ?_ ?_
         rotate_left
         ·rintro w' ⟨s0,s1,s2,s3,s4⟩
          go_simp
          with_reducible rfl
         rotate_left
         ·simp only [Act.put,List.setIfInBounds_toArray,List.set_cons_zero,List.set_cons_succ,i64_w,i32_w]
          rfl
         refine pure_ (i:=9) (N:=some 28) (v:=?_) (a':=?_) #[true,true,true,true,true,true,true,true,true,true,false,false] rfl rfl (any_of HT_.out (by kernel_rfl)) (fun _ _ _ h=>h) (Or.inl ⟨by rfl,?_⟩) ?_ ?_
         rotate_left
         ·intro w'
          go_simp
          with_reducible rfl
         rotate_left
         ·simp only [Act.put,List.setIfInBounds_toArray,List.set_cons_zero,List.set_cons_succ,i64_w,i32_w]
          rfl
         refine one_ (i:=10) (N:=some 6) #[true,true,true,true,true,true,true,true,true,true,true,false] rfl rfl (one_of HT_.out (by kernel_rfl)) (by decide) (fun K hK=>?_)
         refine box_step ?hg (N:=6) ?hd (cs:=#[.string (⟨#[]⟩:ByteArray),.int .i64 0,.bool false]) (t:=69) ?hr ?_;(case hd=>rfl);(case hg=>rfl);(case hr=>first|(go_simp;done)|(go_simp;rfl))
         intro gb334 hg w75 hbox hb
         have HS1_:=(hb.cell (World.block_lt_of_cell? _ _ (hHeld.2.1))).trans (hHeld.2.1)
         have n0_:=Zz.mk (Kd.R_below HO_4.out hb)
         have n1_:=Zz.mk (Kd.R_below (Kd.R_elderB HO_332000.out gb334 (Nat.le_of_eq hg.symm)) hb)
         have n2_:=Zz.mk (bB BK323.out hb)
         have n3_:=Zz.mk (bB BK324.out hb)
         have n4_:=Zz.mk (bB BK331.out hb)
         have n5_:=Zz.mk (qP HB.out hb)
         have n6_:=Zz.mk (hbox)
         have n7_:=Zz.mk ((by rw [hg];exact (qZ HB.out):w.heap.size≤gb334))
         have n8_:=Zz.mk ((by rw [hg];exact (qZ HB.out):w.heap.size≤gb334))
         have n9_:=Zz.mk ((by rw [hg];exact Nat.ne_of_lt (blk_lt BK323.out):gb323 ≠ gb334))
         have n10_:=Zz.mk ((by rw [hg];exact Nat.ne_of_gt (blk_lt BK323.out):gb334 ≠ gb323))
         have n11_:=Zz.mk ((by rw [hg];exact Nat.ne_of_lt (blk_lt BK324.out):gb324 ≠ gb334))
         have n12_:=Zz.mk ((by rw [hg];exact Nat.ne_of_gt (blk_lt BK324.out):gb334 ≠ gb324))
         have n13_:=Zz.mk ((by rw [hg];exact Nat.ne_of_lt (blk_lt BK331.out):gb331 ≠ gb334))
         have n14_:=Zz.mk ((by rw [hg];exact Nat.ne_of_gt (blk_lt BK331.out):gb334 ≠ gb331))
         revert n0_ n1_ n2_ n3_ n4_ n5_ n6_ n7_ n8_ n9_ n10_ n11_ n12_ n13_ n14_
         clear HO_4 HO_332000 BK323 BK324 BK331 HB
         intro HO_4 HO_332000 BK323 BK324 BK331 HB BK334 GW334 GE334 NB323_334 NB334_323 NB324_334 NB334_324 NB331_334 NB334_331
         clear hb hbox hg
         refine hK.out _ _ ⟨(bC BK323.out 0).trans rfl,HS1_,((HB.out.cell (World.block_lt_of_cell? w _ hw333_0)).trans hw333_0),((HB.out.cell (World.block_lt_of_cell? w _ hw333_1)).trans hw333_1),((HB.out.cell (World.block_lt_of_cell? w _ hw333_2)).trans hw333_2)⟩ (fun hHeld=>?_)
         clear hK K
         refine norm_ (a':=?_) ?_ ?_
         rotate_left
         ·show Act.put _ (some 6) _=_
          simp only [Act.put,List.setIfInBounds_toArray,List.set_cons_zero,List.set_cons_succ,i64_w,i32_w]
          rfl
         refine one_ (i:=11) (N:=none) #[true,true,true,true,true,true,true,true,true,true,true,true] rfl rfl (one_of HT_.out (by kernel_rfl)) (by decide) (fun K hK=>?_)
         have hs76:w75.cell? ⟨gb334,0,none⟩=some (.string (⟨#[]⟩:ByteArray)):=(bC BK334.out 0).trans rfl
         have hfs76:=bF BK334.out 0
         have hns76_0:=NB323_334.out
         have hns76_1:=NB324_334.out
         have hns76_2:=NB331_334.out
         have hms76_0:=NB334_323.out
         have hms76_1:=NB334_324.out
         have hms76_2:=NB334_331.out
         have hs77:w75.cell? ⟨gb334,1,none⟩=some (.int .i64 0):=(bC BK334.out 1).trans rfl
         have hfs77:=bF BK334.out 1
         have hns77_0:=NB323_334.out
         have hns77_1:=NB324_334.out
         have hns77_2:=NB331_334.out
         have hms77_0:=NB334_323.out
         have hms77_1:=NB334_324.out
         have hms77_2:=NB334_331.out
         have hs78:w75.cell? ⟨gb334,2,none⟩=some (.bool false):=(bC BK334.out 2).trans rfl
         have hfs78:=bF BK334.out 2
         have hns78_0:=NB323_334.out
         have hns78_1:=NB324_334.out
         have hns78_2:=NB331_334.out
         have hms78_0:=NB334_323.out
         have hms78_1:=NB334_324.out
         have hms78_2:=NB334_331.out
         refine skip_ (w1:=?_) (by rfl) rfl ?_ ?_
         rotate_left
         ·go_simp
          rfl
         refine hK.out _ _ ⟨((cell_far (p:=⟨gb334,_,none⟩) NB323_334.out _).trans (((cell_far (p:=⟨gb334,_,none⟩) NB323_334.out _).trans (((cell_far (p:=⟨gb334,_,none⟩) NB323_334.out _).trans (hHeld.1)))))),((cell_far (p:=⟨gb334,_,none⟩) (by first|exact Kd.own_blk (Kd.R_ne HO_4.out BK334.out (by decide))|(rw [add_block];exact Kd.own_blk (Kd.R_ne HO_4.out BK334.out (by decide)))|(show (Addr.add _ _).block ≠ _;rw [add_block];exact Kd.own_blk (Kd.R_ne HO_4.out BK334.out (by decide)))|(dsimp only;exact Kd.own_blk (Kd.R_ne HO_4.out BK334.out (by decide)))) _).trans (((cell_far (p:=⟨gb334,_,none⟩) (by first|exact Kd.own_blk (Kd.R_ne HO_4.out BK334.out (by decide))|(rw [add_block];exact Kd.own_blk (Kd.R_ne HO_4.out BK334.out (by decide)))|(show (Addr.add _ _).block ≠ _;rw [add_block];exact Kd.own_blk (Kd.R_ne HO_4.out BK334.out (by decide)))|(dsimp only;exact Kd.own_blk (Kd.R_ne HO_4.out BK334.out (by decide)))) _).trans (((cell_far (p:=⟨gb334,_,none⟩) (by first|exact Kd.own_blk (Kd.R_ne HO_4.out BK334.out (by decide))|(rw [add_block];exact Kd.own_blk (Kd.R_ne HO_4.out BK334.out (by decide)))|(show (Addr.add _ _).block ≠ _;rw [add_block];exact Kd.own_blk (Kd.R_ne HO_4.out BK334.out (by decide)))|(dsimp only;exact Kd.own_blk (Kd.R_ne HO_4.out BK334.out (by decide)))) _).trans (hHeld.2.1)))))),((cell_far (p:=⟨gb334,_,none⟩) (by first|exact Nat.ne_of_lt (Nat.lt_of_lt_of_le (by have:=World.block_lt_of_cell? _ _ hw333_0;first|rwa [add_block] at this|exact this) GW334.out)|(rw [add_block];exact Nat.ne_of_lt (Nat.lt_of_lt_of_le (by have:=World.block_lt_of_cell? _ _ hw333_0;first|rwa [add_block] at this|exact this) GW334.out))|(show (Addr.add _ _).block ≠ _;rw [add_block];exact Nat.ne_of_lt (Nat.lt_of_lt_of_le (by have:=World.block_lt_of_cell? _ _ hw333_0;first|rwa [add_block] at this|exact this) GW334.out))|(dsimp only;exact Nat.ne_of_lt (Nat.lt_of_lt_of_le (by have:=World.block_lt_of_cell? _ _ hw333_0;first|rwa [add_block] at this|exact this) GW334.out))) _).trans (((cell_far (p:=⟨gb334,_,none⟩) (by first|exact Nat.ne_of_lt (Nat.lt_of_lt_of_le (by have:=World.block_lt_of_cell? _ _ hw333_0;first|rwa [add_block] at this|exact this) GW334.out)|(rw [add_block];exact Nat.ne_of_lt (Nat.lt_of_lt_of_le (by have:=World.block_lt_of_cell? _ _ hw333_0;first|rwa [add_block] at this|exact this) GW334.out))|(show (Addr.add _ _).block ≠ _;rw [add_block];exact Nat.ne_of_lt (Nat.lt_of_lt_of_le (by have:=World.block_lt_of_cell? _ _ hw333_0;first|rwa [add_block] at this|exact this) GW334.out))|(dsimp only;exact Nat.ne_of_lt (Nat.lt_of_lt_of_le (by have:=World.block_lt_of_cell? _ _ hw333_0;first|rwa [add_block] at this|exact this) GW334.out))) _).trans (((cell_far (p:=⟨gb334,_,none⟩) (by first|exact Nat.ne_of_lt (Nat.lt_of_lt_of_le (by have:=World.block_lt_of_cell? _ _ hw333_0;first|rwa [add_block] at this|exact this) GW334.out)|(rw [add_block];exact Nat.ne_of_lt (Nat.lt_of_lt_of_le (by have:=World.block_lt_of_cell? _ _ hw333_0;first|rwa [add_block] at this|exact this) GW334.out))|(show (Addr.add _ _).block ≠ _;rw [add_block];exact Nat.ne_of_lt (Nat.lt_of_lt_of_le (by have:=World.block_lt_of_cell? _ _ hw333_0;first|rwa [add_block] at this|exact this) GW334.out))|(dsimp only;exact Nat.ne_of_lt (Nat.lt_of_lt_of_le (by have:=World.block_lt_of_cell? _ _ hw333_0;first|rwa [add_block] at this|exact this) GW334.out))) _).trans (hHeld.2.2.1)))))),((cell_far (p:=⟨gb334,_,none⟩) (by first|exact Nat.ne_of_lt (Nat.lt_of_lt_of_le (by have:=World.block_lt_of_cell? _ _ hw333_1;first|rwa [add_block] at this|exact this) GW334.out)|(rw [add_block];exact Nat.ne_of_lt (Nat.lt_of_lt_of_le (by have:=World.block_lt_of_cell? _ _ hw333_1;first|rwa [add_block] at this|exact this) GW334.out))|(show (Addr.add _ _).block ≠ _;rw [add_block];exact Nat.ne_of_lt (Nat.lt_of_lt_of_le (by have:=World.block_lt_of_cell? _ _ hw333_1;first|rwa [add_block] at this|exact this) GW334.out))|(dsimp only;exact Nat.ne_of_lt (Nat.lt_of_lt_of_le (by have:=World.block_lt_of_cell? _ _ hw333_1;first|rwa [add_block] at this|exact this) GW334.out))) _).trans (((cell_far (p:=⟨gb334,_,none⟩) (by first|exact Nat.ne_of_lt (Nat.lt_of_lt_of_le (by have:=World.block_lt_of_cell? _ _ hw333_1;first|rwa [add_block] at this|exact this) GW334.out)|(rw [add_block];exact Nat.ne_of_lt (Nat.lt_of_lt_of_le (by have:=World.block_lt_of_cell? _ _ hw333_1;first|rwa [add_block] at this|exact this) GW334.out))|(show (Addr.add _ _).block ≠ _;rw [add_block];exact Nat.ne_of_lt (Nat.lt_of_lt_of_le (by have:=World.block_lt_of_cell? _ _ hw333_1;first|rwa [add_block] at this|exact this) GW334.out))|(dsimp only;exact Nat.ne_of_lt (Nat.lt_of_lt_of_le (by have:=World.block_lt_of_cell? _ _ hw333_1;first|rwa [add_block] at this|exact this) GW334.out))) _).trans (((cell_far (p:=⟨gb334,_,none⟩) (by first|exact Nat.ne_of_lt (Nat.lt_of_lt_of_le (by have:=World.block_lt_of_cell? _ _ hw333_1;first|rwa [add_block] at this|exact this) GW334.out)|(rw [add_block];exact Nat.ne_of_lt (Nat.lt_of_lt_of_le (by have:=World.block_lt_of_cell? _ _ hw333_1;first|rwa [add_block] at this|exact this) GW334.out))|(show (Addr.add _ _).block ≠ _;rw [add_block];exact Nat.ne_of_lt (Nat.lt_of_lt_of_le (by have:=World.block_lt_of_cell? _ _ hw333_1;first|rwa [add_block] at this|exact this) GW334.out))|(dsimp only;exact Nat.ne_of_lt (Nat.lt_of_lt_of_le (by have:=World.block_lt_of_cell? _ _ hw333_1;first|rwa [add_block] at this|exact this) GW334.out))) _).trans (hHeld.2.2.2.1)))))),((cell_far (p:=⟨gb334,_,none⟩) (by first|exact Nat.ne_of_lt (Nat.lt_of_lt_of_le (by have:=World.block_lt_of_cell? _ _ hw333_2;first|rwa [add_block] at this|exact this) GW334.out)|(rw [add_block];exact Nat.ne_of_lt (Nat.lt_of_lt_of_le (by have:=World.block_lt_of_cell? _ _ hw333_2;first|rwa [add_block] at this|exact this) GW334.out))|(show (Addr.add _ _).block ≠ _;rw [add_block];exact Nat.ne_of_lt (Nat.lt_of_lt_of_le (by have:=World.block_lt_of_cell? _ _ hw333_2;first|rwa [add_block] at this|exact this) GW334.out))|(dsimp only;exact Nat.ne_of_lt (Nat.lt_of_lt_of_le (by have:=World.block_lt_of_cell? _ _ hw333_2;first|rwa [add_block] at this|exact this) GW334.out))) _).trans (((cell_far (p:=⟨gb334,_,none⟩) (by first|exact Nat.ne_of_lt (Nat.lt_of_lt_of_le (by have:=World.block_lt_of_cell? _ _ hw333_2;first|rwa [add_block] at this|exact this) GW334.out)|(rw [add_block];exact Nat.ne_of_lt (Nat.lt_of_lt_of_le (by have:=World.block_lt_of_cell? _ _ hw333_2;first|rwa [add_block] at this|exact this) GW334.out))|(show (Addr.add _ _).block ≠ _;rw [add_block];exact Nat.ne_of_lt (Nat.lt_of_lt_of_le (by have:=World.block_lt_of_cell? _ _ hw333_2;first|rwa [add_block] at this|exact this) GW334.out))|(dsimp only;exact Nat.ne_of_lt (Nat.lt_of_lt_of_le (by have:=World.block_lt_of_cell? _ _ hw333_2;first|rwa [add_block] at this|exact this) GW334.out))) _).trans (((cell_far (p:=⟨gb334,_,none⟩) (by first|exact Nat.ne_of_lt (Nat.lt_of_lt_of_le (by have:=World.block_lt_of_cell? _ _ hw333_2;first|rwa [add_block] at this|exact this) GW334.out)|(rw [add_block];exact Nat.ne_of_lt (Nat.lt_of_lt_of_le (by have:=World.block_lt_of_cell? _ _ hw333_2;first|rwa [add_block] at this|exact this) GW334.out))|(show (Addr.add _ _).block ≠ _;rw [add_block];exact Nat.ne_of_lt (Nat.lt_of_lt_of_le (by have:=World.block_lt_of_cell? _ _ hw333_2;first|rwa [add_block] at this|exact this) GW334.out))|(dsimp only;exact Nat.ne_of_lt (Nat.lt_of_lt_of_le (by have:=World.block_lt_of_cell? _ _ hw333_2;first|rwa [add_block] at this|exact this) GW334.out))) _).trans (hHeld.2.2.2.2))))))⟩ (fun hHeld=>?_)
         clear hK K
         refine done_ (done_of HT_.out (by kernel_rfl)) ?_
         have hnb79:=NB331_323.out
         have hnc79:=NB323_331.out
         have hnb80:=NB331_324.out
         have hnc80:=NB324_331.out
         have hnb81:=NB331_334.out
         have hnc81:=NB334_331.out
         have hcz82_0:w75.cell? ⟨gb331,0,none⟩=some (u332000):=(bC BK331.out 0).trans rfl
         have hfz82_0:=bF BK331.out 0
         have hnb83:=NB334_323.out
         have hnc83:=NB323_334.out
         have hnb84:=NB334_324.out
         have hnc84:=NB324_334.out
         have hcz85_0:w75.cell? ⟨gb334,0,none⟩=some (.string (⟨#[]⟩:ByteArray)):=(bC BK334.out 0).trans rfl
         have hcz85_1:w75.cell? ⟨gb334,1,none⟩=some (.int .i64 0):=(bC BK334.out 1).trans rfl
         have hcz85_2:w75.cell? ⟨gb334,2,none⟩=some (.bool false):=(bC BK334.out 2).trans rfl
         have hfz85_0:=bF BK334.out 0
         have hfz85_1:=bF BK334.out 1
         have hfz85_2:=bF BK334.out 2
         try go_wp2_with (first|((with_reducible refine gate_builtin (b:=.append) (xs:=#[.tmp 76,.tmp 78]) rfl ?_);at_builtin;refine Kd.R_append k69 (w0:=w) w.heap.size rfl (.tmp 76) (.tmp 78) 34 69 (.agg #[(.string ⟨#[]⟩),(.int .i64 0),(.bool false)]) 32 rfl Try.underlying34 info69 rfl (by decide) (by omega) u332000 x332000_1 (⟨(⟨#[]⟩:ByteArray),(-1),(rT l0_0 (rd t328 x5_1)).f2⟩:S69) [.string (⟨#[]⟩:ByteArray),.int .i64 (-1),.bool ((rT l0_0 (rd t328 x5_1)).f2)] (fun k_=>k_ ≠ gb334) (fun _=>False) rfl (by first|(go_simp;done)|(go_simp;rfl)) ?aP (fun _ hk=>hk.elim) ?aF ?aO ?aB ?aS ?aL ?_;(case aP=>exact k69_mkM _ _ _ (⟨(⟨#[]⟩:ByteArray),(-1),(rT l0_0 (rd t328 x5_1)).f2⟩:S69));(case aB=>exact (by repeat (first|(with_reducible first|exact HB.out|apply qA|apply qN|apply q1_|refine qS ?_ GE323.out|refine qS ?_ GE324.out|refine qS ?_ GE331.out|refine qS ?_ GE334.out)|exact HB.out)));(case aF=>exact (fun k_ hk=>Kd.freshB (g:=gb334) (o:=.cells #[.string (⟨#[]⟩:ByteArray),.int .i64 (-1),.bool ((rT l0_0 (rd t328 x5_1)).f2)] 69 (0,0)) (by (with_reducible repeat first|apply bN|apply bD|apply bA);refine blk_put (cs:=#[.string (⟨#[]⟩:ByteArray),.int .i64 (-1),.bool false]) ?_ 2 _ rfl;(with_reducible repeat first|apply bN|apply bD|apply bA);refine blk_put (cs:=#[.string (⟨#[]⟩:ByteArray),.int .i64 0,.bool false]) ?_ 1 _ rfl;(with_reducible repeat first|apply bN|apply bD|apply bA);refine blk_put (cs:=#[.string (⟨#[]⟩:ByteArray),.int .i64 0,.bool false]) ?_ 0 _ rfl;(with_reducible repeat first|apply bN|apply bD|apply bA);exact BK334.out) k_ hk));(case aO=>exact (by (with_reducible repeat first|apply Kd.R_alloc|apply Kd.R_drewN|apply Kd.R_drew);exact Kd.R_mono (R_same_ (Kd.R_far (p:=⟨gb334,2,none⟩) (Kd.R_far (p:=⟨gb334,1,none⟩) (Kd.R_far (p:=⟨gb334,0,none⟩) (Kd.R_mono HO_332000.out (fun k_ hk=>(⟨hk,hk.2⟩:_∧k_ ≠ gb334))) (fun _ hk=>hk.2) (.string (⟨#[]⟩:ByteArray))) (fun _ hk=>hk.2) (.int .i64 (-1))) (fun _ hk=>hk.2) (.bool ((rT l0_0 (rd t328 x5_1)).f2))) rfl) (fun _ hk=>hk.1.2)));(case aS=>exact (qZ (by repeat (first|(with_reducible first|exact HB.out|apply qA|apply qN|apply q1_|refine qS ?_ GE323.out|refine qS ?_ GE324.out|refine qS ?_ GE331.out|refine qS ?_ GE334.out)|exact HB.out))));(case aL=>have:=LMc72.out;omega);intro v347 w86 ho hb hg hat;rw [← Ny346.out] at ho;have n0_:=Zz.mk (Kd.R_over' (by (with_reducible repeat first|apply Kd.R_alloc|apply Kd.R_drewN|apply Kd.R_drew);exact (Kd.R_mono (R_same_ (Kd.R_far (p:=⟨gb334,2,none⟩) (Kd.R_far (p:=⟨gb334,1,none⟩) (Kd.R_far (p:=⟨gb334,0,none⟩) (Kd.R_types HO_4.out BK334.out (by decide)) (fun _ hk=>hk.2) (.string (⟨#[]⟩:ByteArray))) (fun _ hk=>hk.2) (.int .i64 (-1))) (fun _ hk=>hk.2) (.bool ((rT l0_0 (rd t328 x5_1)).f2))) rfl) (fun _ h_=>h_.1))) (Kd.R_typed (by (with_reducible repeat first|apply Kd.R_alloc|apply Kd.R_drewN|apply Kd.R_drew);exact (Kd.R_mono (R_same_ (Kd.R_far (p:=⟨gb334,2,none⟩) (Kd.R_far (p:=⟨gb334,1,none⟩) (Kd.R_far (p:=⟨gb334,0,none⟩) (Kd.R_mono HO_332000.out (fun k_ hk=>(⟨hk,hk.2⟩:_∧k_ ≠ gb334))) (fun _ hk=>hk.2) (.string (⟨#[]⟩:ByteArray))) (fun _ hk=>hk.2) (.int .i64 (-1))) (fun _ hk=>hk.2) (.bool ((rT l0_0 (rd t328 x5_1)).f2))) rfl) (fun _ h_=>h_.1)))) (by decide) hg);have n1_:=Zz.mk (blk_grown (g:=gb323) (o:=.cells #[.slice (some ad333) l0_0.length c0_0] 24 (0,0)) (by (with_reducible repeat first|apply bN|apply bD|apply bA);refine blk_far ?_ NB323_334.out _;(with_reducible repeat first|apply bN|apply bD|apply bA);refine blk_far ?_ NB323_334.out _;(with_reducible repeat first|apply bN|apply bD|apply bA);refine blk_far ?_ NB323_334.out _;(with_reducible repeat first|apply bN|apply bD|apply bA);exact BK323.out) hg (Kd.R_ne HO_332000.out BK323.out (by decide)));have n2_:=Zz.mk (blk_grown (g:=gb324) (o:=.cells #[.slice none 0 0] 36 (0,0)) (by (with_reducible repeat first|apply bN|apply bD|apply bA);refine blk_far ?_ NB324_334.out _;(with_reducible repeat first|apply bN|apply bD|apply bA);refine blk_far ?_ NB324_334.out _;(with_reducible repeat first|apply bN|apply bD|apply bA);refine blk_far ?_ NB324_334.out _;(with_reducible repeat first|apply bN|apply bD|apply bA);exact BK324.out) hg (Kd.R_ne HO_332000.out BK324.out (by decide)));have n3_:=Zz.mk (blk_grown (g:=gb331) (o:=.cells #[u332000] 36 (0,0)) (by (with_reducible repeat first|apply bN|apply bD|apply bA);refine blk_far ?_ NB331_334.out _;(with_reducible repeat first|apply bN|apply bD|apply bA);refine blk_far ?_ NB331_334.out _;(with_reducible repeat first|apply bN|apply bD|apply bA);refine blk_far ?_ NB331_334.out _;(with_reducible repeat first|apply bN|apply bD|apply bA);exact BK331.out) hg (Kd.R_ne HO_332000.out BK331.out (by decide)));have n4_:=Zz.mk (blk_grown (g:=gb334) (o:=.cells #[.string (⟨#[]⟩:ByteArray),.int .i64 (-1),.bool ((rT l0_0 (rd t328 x5_1)).f2)] 69 (0,0)) (by (with_reducible repeat first|apply bN|apply bD|apply bA);refine blk_put (cs:=#[.string (⟨#[]⟩:ByteArray),.int .i64 (-1),.bool false]) ?_ 2 _ rfl;(with_reducible repeat first|apply bN|apply bD|apply bA);refine blk_put (cs:=#[.string (⟨#[]⟩:ByteArray),.int .i64 0,.bool false]) ?_ 1 _ rfl;(with_reducible repeat first|apply bN|apply bD|apply bA);refine blk_put (cs:=#[.string (⟨#[]⟩:ByteArray),.int .i64 0,.bool false]) ?_ 0 _ rfl;(with_reducible repeat first|apply bN|apply bD|apply bA);exact BK334.out) hg (Kd.R_away HO_332000.out (fun _ hk=>hk.2)));have n5_:=Zz.mk (hb);have n6_:=Zz.mk (ho);clear HO_4;clear BK323;clear BK324;clear BK331;clear BK334;clear HB;clear HO_332000;have HO_4:=n0_;have BK323:=n1_;have BK324:=n2_;have BK331:=n3_;have BK334:=n4_;have HB:=n5_;have HO348:=n6_;clear n0_ n1_ n2_ n3_ n4_ n5_ n6_;clear ho hb hg hat;obtain ⟨Ao87,co87,eo87⟩:=Kd.R_slice HO348.out;subst eo87;have hcz88_0:w86.cell? ⟨gb331,0,none⟩=some (u332000):=(bC BK331.out 0).trans rfl;have hfz88_0:=bF BK331.out 0))
         go_roundg k1
         case measure=>have:=HK1.out;omega
         case rel=>exact ⟨(wrap64 (x5_1+1)),(y346),(.slice Ao87 y346.length co87),(by first|rfl|(simp;done)|(simp [*];done)),H',⟨by have:=HK1.out;omega⟩,⟨by (with_reducible repeat first|apply Kd.R_alloc|apply Kd.R_drewN|apply Kd.R_drew);exact Kd.R_mono (R_same_ (Kd.R_far (p:=⟨gb331,0,none⟩) (Kd.R_types HO_4.out BK331.out (by decide)) (fun _ hk=>hk.2) (.slice Ao87 y346.length co87)) rfl) (fun _ hk=>trivial)⟩,⟨by (with_reducible repeat first|apply Kd.R_alloc|apply Kd.R_drewN|apply Kd.R_drew);exact Kd.R_mono (R_same_ (Kd.R_far (p:=⟨gb331,0,none⟩) (Kd.R_types HO348.out BK331.out (by decide)) (fun _ hk=>hk.2) (.slice Ao87 y346.length co87)) rfl) (fun _ hk=>trivial)⟩,⟨by (with_reducible repeat first|apply bN|apply bD|apply bA);refine blk_far ?_ NB323_331.out _;(with_reducible repeat first|apply bN|apply bD|apply bA);exact BK323.out⟩,⟨by (with_reducible repeat first|apply bN|apply bD|apply bA);refine blk_far ?_ NB324_331.out _;(with_reducible repeat first|apply bN|apply bD|apply bA);exact BK324.out⟩,⟨by (with_reducible repeat first|apply bN|apply bD|apply bA);refine blk_put (cs:=#[u332000]) ?_ 0 _ rfl;(with_reducible repeat first|apply bN|apply bD|apply bA);exact BK331.out⟩,⟨by repeat (first|(with_reducible first|exact HB.out|apply qA|apply qN|apply q1_|refine qS ?_ GE323.out|refine qS ?_ GE324.out|refine qS ?_ GE331.out|refine qS ?_ GE334.out)|exact HB.out)⟩⟩
        ·rw [if_neg c72] at H
         exact absurd H (by simp)
      ·rw [if_neg c18] at H
       exact absurd H (by simp)
     ·rw [if_neg c17] at H
      exact absurd H (by simp)
    ·rw [if_neg c16] at H
     exact absurd H (by simp)
   ·rw [if_neg c15] at H
    have c15b0:decide (x5_1<(t328.length:Int))=false:=decide_eq_false c15
    clear c15
    obtain rfl:=Option.some.inj H
    obtain ⟨Ao89,co89,eo89⟩:=Kd.R_slice HO_4.out
    subst eo89
    have hnb90:=NB331_323.out
    have hnc90:=NB323_331.out
    have hnb91:=NB331_324.out
    have hnc91:=NB324_331.out
    have hcz92_0:wr.cell? ⟨gb331,0,none⟩=some (u332000):=(bC BK331.out 0).trans rfl
    have hfz92_0:=bF BK331.out 0
    obtain ⟨Ao93,co93,eo93⟩:=Kd.R_slice HO_332000.out
    subst eo93
    have hnb94:=NB324_323.out
    have hnc94:=NB323_324.out
    have hcz95_0:wr.cell? ⟨gb324,0,none⟩=some (.slice none 0 0):=(bC BK324.out 0).trans rfl
    have hfz95_0:=bF BK324.out 0
    go_wp2
    refine bodyPost_ret (results_cell_row rfl _ _ gb324 36 #[.slice Ao93 x332000_1.length co93] (0,0) _ rfl (by (with_reducible repeat first|apply bN|apply bD|apply bA);refine blk_put (cs:=#[.slice none 0 0]) ?_ 0 _ rfl;(with_reducible repeat first|apply bN|apply bD|apply bA);exact BK324.out) Try.underlying36 rfl (by kernel_rfl)) rfl ?_
    exact ⟨_,by first|rfl|(simp [errW_none,errW_some] <;> rfl)|(simp [*,errW_none,errW_some] <;> rfl),by (with_reducible repeat first|apply Kd.R_alloc|apply Kd.R_drewN|apply Kd.R_drew);exact Kd.R_mono (R_same_ (Kd.R_far (p:=⟨gb324,0,none⟩) (Kd.R_types HO_332000.out BK324.out (by decide)) (fun _ hk=>hk.2) (.slice Ao93 x332000_1.length co93)) rfl) (fun _ hk=>trivial),by repeat (first|(with_reducible first|exact HB.out|apply qA|apply qN|apply q1_|refine qS ?_ GE323.out|refine qS ?_ GE324.out|refine qS ?_ GE331.out)|exact HB.out)⟩
end Go.Proofs.Ytghkbgmbbcaecaa.Q
