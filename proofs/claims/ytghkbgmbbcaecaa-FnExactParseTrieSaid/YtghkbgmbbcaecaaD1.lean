import Derived.Test.YtghkbgmbbcaecaaD0
import Derived.Test.YtghkbgmbbcaecaaDwWords
import Derived.Test.YtghkbgmbbcaecaaDwLast
import Derived.Test.YtghkbgmbbcaecaaDwTab
import Derived.Test.YtghkbgmbbcaecaaDwApart
import Derived.Test.YtghkbgmbbcaecaaDwFoot
import Derived.Test.YtghkbgmbbcaecaaDwKept
import Derived.Test.YtghkbgmbbcaecaaDwShare
import Derived.Test.YtghkbgmbbcaecaaDwN
import Derived.Test.YtghkbgmbbcaecaaDwRepsOne
import Derived.Test.YtghkbgmbbcaecaaDwGuard
import Derived.Test.YtghkbgmbbcaecaaDwMore
import Derived.Test.YtghkbgmbbcaecaaProg
import Derived.Below
import Derived.Deep.Draws
import Derived.Deep.AppendLies
import Derived.Maps.AppendAt
import Derived.OwnWalk
import Derived.Laws.BytesArg
import Derived.Laws.MakeOwn
import Derived.Laws.OwnMore
import Derived.Deep.OwnRows
import Derived.Tactics
import Derived.Lib.ConvBytes
import Derived.Laws.Slices
import Derived.WalkKit
import Derived.KernelRfl
import Derived.RowKit3
import Derived.Deep.LoopGhost
import Derived.Deep.QuietTactic
import Derived.BigQuiet
import Derived.WideLaws
import Derived.Deep.DeepCutAuto
import Derived.Deep.CutBlock
import Derived.Deep.RegionHeld3
import Derived.Laws.Rows
import Derived.Lib.AppendStr
import Derived.ArgAppend
import Derived.Laws.IdiomCopy
import Derived.OrdersHeld
import Derived.Laws.BitsLemmas
import Derived.RowKit
import Derived.Lib.SlicesCompact
import Derived.Maps.Own
import Derived.StringKeys
import Derived.Maps.OwnOps
import Derived.Maps.OwnSet
import Derived.Maps.Views
import Derived.Laws.AppendOwn
import Derived.Deep.DrawnRows
import Derived.Shelf.Sort.Plain
import Derived.Shelf.Slices.CompactS
import Derived.Shelf.Slices.In.SortNone
import Derived.RangeFuncBox
import Derived.RangeFuncLeaves
import Derived.Shelf.Abstract
import Derived.OwnWalkIn
import Derived.TacticsInMore
import Derived.LoopNIn
import Derived.LoopIn
import Derived.Lib.OwnBridge
import Derived.Sort.OwnSorted
import Derived.Sort.Grow
import Derived.Shelf.Strings.OnBuilder
import Derived.Ground.NamesProg
import Derived.Ground.SlgfProg
import Derived.Sort.Walk0
import Derived.Lib.Strings
set_option linter.unusedVariables false
set_option linter.unusedSimpArgs false
namespace Go.Proofs.Ytghkbgmbbcaecaa.Q
open Go.RowKit Go.Proofs.YtghkbgmbbcaecaaW.PrintWords Go.Proofs.YtghkbgmbbcaecaaW.PrintLast Go.Proofs.YtghkbgmbbcaecaaW.PrintMore
attribute [local go_sem] run_field_23 run_field_24 run_field_31 run_field_32 run_field_35 run_field_36 isSome_setCell max2_int min2_int max_two min_two max_three min_three max_four min_four   -- for this text's walks alone
set_option linter.unusedVariables false
set_option linter.unusedSimpArgs false
def spec_l2Set.l0:Nat→List ByteArray→List ByteArray→Int→Option (List ByteArray × Bool)
  | 0,_,_,_=>none
  | k+1,x0,x4,x5=>if x5<(x0.length:Int) then (if 0≤x5 then ((spec_l2Word.f k (rdOf ByteArray.empty x0 x5)).bind fun t236=>(if t236=true then ((spec_l2Put.f k x4 (rdOf ByteArray.empty x0 x5)).bind fun t238=>(spec_l2Set.l0 k x0 t238 (wrap64 (x5+1)))) else (some ((([]:List ByteArray)),false)))) else (none)) else (some (x4,decide ((x4.length:Int)≤40)))
def spec_l2Set.f (k:Nat) (l0:List ByteArray):Option (List ByteArray × Bool):=spec_l2Set.l0 k l0 (([]:List ByteArray)) 0
set_option maxHeartbeats 8000000 in
set_option maxRecDepth 100000 in
theorem spec_l2Set.calls (k:Nat) (A0:Option Addr) (c0:Nat) (l0:List ByteArray) (r1:List ByteArray) (r2:Bool) (w:World) (hr0:Kd.C Kd.string w A0 l0.length l0) (hc0:l0.length≤c0) (h:spec_l2Set.f k l0=some (r1,r2)) :
  Calls Try.prog 32 #[.slice A0 l0.length c0] w fun e w'=>∃ v0_:Value,e=.returned (.tuple #[v0_,.bool r2])∧Kd.V Kd.string 9 w' w.heap.size (fun k_=>(w.heap.size≤k_)) v0_ r1∧Below w.heap.size w w':=by
 have HR0:=Zz.mk hr0
 have HC0:=Zz.mk hc0
 clear hr0 hc0
 have HB:=Zz.mk (Below.refl w.heap.size w)
 have H:(spec_l2Set.l0 k l0 (([]:List ByteArray)) 0)=some (r1,r2):=h
 clear h
 obtain ⟨y232,hy232⟩:∃ y_:List ByteArray,y_=(([]:List ByteArray)):=⟨_,rfl⟩
 replace H:(spec_l2Set.l0 k l0 y232 0)=some (r1,r2):=by first|(rw [hy232];with_reducible exact H)|(have H2_:=(Option.bind_some _ _).symm.trans H;rw [hy232];with_reducible exact H2_)|(have H2_:=(Option.bind_some _ _).symm.trans H;with_reducible exact H2_)|with_reducible exact H|(rw [hy232];exact H)|exact H
 have Ny232:=Zz.mk hy232
 clear hy232
 have H':=Zz.mk H
 clear H
 go_enter Try.func32,Try.ntmps32
 go_wp2_with (first|((with_reducible refine gate_dst (N:=6) rfl ?_);refine Kd.R_lit Kd.string _ 9 ?hg (N:=6) ?hd (xs:=([]:List ByteArray)) (inner:=[]) (ok:=fun _=>True) (okp:=fun _=>True) ?hr ?hp (fun _ hk=>hk) trivial (Below.refl _ _) (Nat.le_refl _) (by simp) ?_;(case hd=>rfl);(case hg=>rfl);(case hr=>first|(go_simp;done)|(go_simp;rfl));(case hp=>exact (Reps.none _ _));intro v233 w2 ho3 hb hg_ hnew_;clear hg_ hnew_;(first|rw [← Ny232.out] at ho3|(simp only [Int.reduceToNat] at ho3;rw [← Ny232.out] at ho3));have n0_:=Zz.mk (Kd.R_lower (Kd.R_newM (M:=fun k_=>(w.heap.size≤k_)) ho3 (qZ (by repeat (first|(with_reducible first|exact HB.out|apply qA|apply qN|apply q1_)|exact HB.out))) (fun k_ h_=>h_)) (qZ (by repeat (first|(with_reducible first|exact HB.out|apply qA|apply qN|apply q1_)|exact HB.out))));have n1_:=Zz.mk (qP (by repeat (first|(with_reducible first|exact HB.out|apply qA|apply qN|apply q1_)|exact HB.out)) hb);clear HB;have HO234:=n0_;have HB:=n1_;clear n0_ n1_;clear hb ho3))
 go_loopg [4,5] k (fun kq v4 v5 w'=>∃ (x4_1:List ByteArray) (x5_1:Int),v5=.int .i64 x5_1∧Zz (spec_l2Set.l0 kq l0 x4_1 x5_1=some (r1,r2))∧Zz (kq≤k)∧Zz (Kd.V Kd.string 9 w' w.heap.size (fun k_=>(w.heap.size≤k_)) v4 x4_1)∧Zz (Below w.heap.size w w'))
 case atStart=>exact ⟨(y232),(0),(by first|rfl|(simp;done)|(simp [*];done)),H',⟨Nat.le_refl _⟩,⟨Kd.R_V (by (with_reducible repeat first|apply Kd.R_alloc|apply Kd.R_drewN|apply Kd.R_drew);exact Kd.R_mono HO234.out (fun _ hk=>hk.1))⟩,⟨by repeat (first|(with_reducible first|exact HB.out|apply qA|apply qN|apply q1_)|exact HB.out)⟩⟩
 case round =>
  clear H'
  try clear p2
  try clear c3
  obtain ⟨x4_1,x5_1,rfl,HA,HK1,HO_4,HB⟩:=hrel
  cases gk with
  | zero=>exact absurd HA.out (by simp [spec_l2Set.l0])
  | succ k1 =>
   have H:=HA.out
   clear HA
   simp only [spec_l2Set.l0] at H
   by_cases c4:x5_1<(l0.length:Int)
   ·rw [if_pos c4] at H
    have c4b0:decide (x5_1<(l0.length:Int))=true:=decide_eq_true c4
    clear c4
    by_cases c5:0≤x5_1
    ·rw [if_pos c5] at H
     have c5b0:decide (0≤x5_1)=true:=decide_eq_true c5
     clear c5
     replace H:=Option.bind_eq_some_iff.mp H
     obtain ⟨t236,A60,H⟩:=H
     replace H:(if t236=true then ((spec_l2Put.f k1 x4_1 (rdOf ByteArray.empty l0 x5_1)).bind fun t238=>(spec_l2Set.l0 k1 l0 t238 (wrap64 (x5_1+1)))) else (some ((([]:List ByteArray)),false)))=some (r1,r2):=H
     have A6:=Zz.mk A60
     clear A60
     by_cases c7:t236=true
     ·subst c7
      have H1:((spec_l2Put.f k1 x4_1 (rdOf ByteArray.empty l0 x5_1)).bind fun t238=>(spec_l2Set.l0 k1 l0 t238 (wrap64 (x5_1+1))))=some (r1,r2):=by rw [if_pos rfl] at H;exact H
      clear H
      have H:=H1
      clear H1
      replace H:=Option.bind_eq_some_iff.mp H
      obtain ⟨t238,A80,H⟩:=H
      replace H:(spec_l2Set.l0 k1 l0 t238 (wrap64 (x5_1+1)))=some (r1,r2):=H
      have A8:=Zz.mk A80
      clear A80
      have H':=Zz.mk H
      clear H
      have p235:0≤(x5_1:Int):=of_decide_eq_true (by first|(with_reducible assumption)|assumption)
      have q235:x5_1<(l0.length:Int):=of_decide_eq_true (by first|(with_reducible assumption)|assumption)
      obtain ⟨ad235,e235,hx235_0⟩:=Kd.at_string HR0.out x5_1 p235 q235
      cases e235
      replace hx235_0:=(HB.out.cell (World.block_lt_of_cell? w _ hx235_0)).trans hx235_0
      replace p235:=eq_true p235
      replace q235:=eq_true q235
      go_wp2_with (first|((with_reducible refine gate_callee (f:=56) rfl ?_);refine goesL_ (some 17) rfl rfl Try.func56 (by kernel_rfl) rfl #[.string (rdOf ByteArray.empty l0 x5_1)] rfl (by (try simp only [List.map_toArray,List.map_cons,List.map_nil]);first|done|rfl|(simp only [List.length_drop,List.length_take];rfl)) ?_;(with_reducible refine (spec_l2Word.calls k1 (rdOf ByteArray.empty l0 x5_1) true _ A6.out).mono ?_);rintro e w' ⟨rfl,⟨nd,rfl⟩⟩;refine ⟨_,rfl,?_⟩;have p237:0≤(x5_1:Int):=of_decide_eq_true (by first|(with_reducible assumption)|assumption);have q237:x5_1<(l0.length:Int):=of_decide_eq_true (by first|(with_reducible assumption)|assumption);obtain ⟨ad237,e237,hx237_0⟩:=Kd.at_string HR0.out x5_1 p237 q237;obtain rfl:ad235=ad237:=(by injection e237);replace hx237_0:=(HB.out.cell (World.block_lt_of_cell? w _ hx237_0)).trans hx237_0;replace p237:=eq_true p237;replace q237:=eq_true q237;obtain ⟨Ao9,co9,eo9⟩:=Kd.V_slice HO_4.out;subst eo9)|((with_reducible refine gate_callee (f:=57) rfl ?_);refine goesL_ (some 25) rfl rfl Try.func57 (by kernel_rfl) rfl #[.slice Ao9 x4_1.length co9,.string (rdOf ByteArray.empty l0 x5_1)] rfl (by (try simp only [List.map_toArray,List.map_cons,List.map_nil]);first|done|rfl|(simp only [List.length_drop,List.length_take];rfl)) ?_;(with_reducible refine (spec_l2Put.calls k1 (fun k_=>(w.heap.size≤k_)) _ _ x4_1 (rdOf ByteArray.empty l0 x5_1) t238 _ ?side1 A8.out).mono ?_);(case side1=>exact HO_4.out);rintro e w10 ⟨v239,rfl,ho0,hb⟩;refine ⟨_,rfl,?_⟩;have n0_:=Zz.mk (Kd.V_below (by (with_reducible repeat (first|apply Kd.V_alloc|apply Kd.V_drewN|apply Kd.V_drew));exact HO_4.out) hb);have n1_:=Zz.mk (Kd.V_lower (Kd.V_mono (ok':=fun k_=>(w.heap.size≤k_)) ho0 (fun k_ hk_=>Or.elim hk_ (fun hs_=>hs_) (fun hn_=>(Nat.le_trans (qZ (by repeat (first|(with_reducible first|exact HB.out|apply qA|apply qN|apply q1_)|exact HB.out))) hn_)))) (qZ (by repeat (first|(with_reducible first|exact HB.out|apply qA|apply qN|apply q1_)|exact HB.out))));have n2_:=Zz.mk (qP (by repeat (first|(with_reducible first|exact HB.out|apply qA|apply qN|apply q1_)|exact HB.out)) hb);clear HO_4;clear HB;have HO_4:=n0_;have HO240:=n1_;have HB:=n2_;clear n0_ n1_ n2_;(try clear hb);(try clear hb2);(try clear hk);(try clear hi);(try clear ho0)))
      go_roundg k1
      case measure=>have:=HK1.out;omega
      case rel=>exact ⟨(t238),(wrap64 (x5_1+1)),(by first|rfl|(simp;done)|(simp [*];done)),H',⟨by have:=HK1.out;omega⟩,⟨by (with_reducible repeat (first|apply Kd.V_alloc|apply Kd.V_drewN|apply Kd.V_drew));exact HO240.out⟩,⟨by repeat (first|(with_reducible first|exact HB.out|apply qA|apply qN|apply q1_)|exact HB.out)⟩⟩
     ·replace c7:=Bool.eq_false_iff.mpr c7
      subst c7
      have H1:(some ((([]:List ByteArray)),false))=some (r1,r2):=by rw [if_neg (show ¬ (false=true) by decide)] at H;exact H
      clear H
      have H:=H1
      clear H1
      obtain ⟨y241,hy241⟩:∃ y_:List ByteArray,y_=(([]:List ByteArray)):=⟨_,rfl⟩
      replace H:(some (y241,false))=some (r1,r2):=by first|(rw [hy241];with_reducible exact H)|(have H2_:=(Option.bind_some _ _).symm.trans H;rw [hy241];with_reducible exact H2_)|(have H2_:=(Option.bind_some _ _).symm.trans H;with_reducible exact H2_)|with_reducible exact H|(rw [hy241];exact H)|exact H
      have Ny241:=Zz.mk hy241
      clear hy241
      simp only [Option.some.injEq,Prod.mk.injEq] at H
      obtain ⟨rfl,rfl⟩:=H
      have p235:0≤(x5_1:Int):=of_decide_eq_true (by first|(with_reducible assumption)|assumption)
      have q235:x5_1<(l0.length:Int):=of_decide_eq_true (by first|(with_reducible assumption)|assumption)
      obtain ⟨ad235,e235,hx235_0⟩:=Kd.at_string HR0.out x5_1 p235 q235
      cases e235
      replace hx235_0:=(HB.out.cell (World.block_lt_of_cell? w _ hx235_0)).trans hx235_0
      replace p235:=eq_true p235
      replace q235:=eq_true q235
      go_wp2_with (first|((with_reducible refine gate_callee (f:=56) rfl ?_);refine goesL_ (some 17) rfl rfl Try.func56 (by kernel_rfl) rfl #[.string (rdOf ByteArray.empty l0 x5_1)] rfl (by (try simp only [List.map_toArray,List.map_cons,List.map_nil]);first|done|rfl|(simp only [List.length_drop,List.length_take];rfl)) ?_;(with_reducible refine (spec_l2Word.calls k1 (rdOf ByteArray.empty l0 x5_1) false _ A6.out).mono ?_);rintro e w' ⟨rfl,⟨nd,rfl⟩⟩;refine ⟨_,rfl,?_⟩)|((with_reducible refine gate_dst (N:=19) rfl ?_);refine Kd.R_lit Kd.string _ 9 ?hg (N:=19) ?hd (xs:=([]:List ByteArray)) (inner:=[]) (ok:=fun _=>True) (okp:=fun _=>True) ?hr ?hp (fun _ hk=>hk) trivial (Below.refl _ _) (Nat.le_refl _) (by simp) ?_;(case hd=>rfl);(case hg=>rfl);(case hr=>first|(go_simp;done)|(go_simp;rfl));(case hp=>exact (Reps.none _ _));intro v242 w11 ho12 hb hg_ hnew_;clear hg_ hnew_;(first|rw [← Ny241.out] at ho12|(simp only [Int.reduceToNat] at ho12;rw [← Ny241.out] at ho12));have n0_:=Zz.mk (Kd.V_elder' (by (with_reducible repeat (first|apply Kd.V_alloc|apply Kd.V_drewN|apply Kd.V_drew));exact HO_4.out) (Kd.R_base ho12) hb);have n1_:=Zz.mk (Kd.R_lower (Kd.R_newM (M:=fun k_=>(w.heap.size≤k_)) ho12 (qZ (by repeat (first|(with_reducible first|exact HB.out|apply qA|apply qN|apply q1_)|exact HB.out))) (fun k_ h_=>h_)) (qZ (by repeat (first|(with_reducible first|exact HB.out|apply qA|apply qN|apply q1_)|exact HB.out))));have n2_:=Zz.mk (qP (by repeat (first|(with_reducible first|exact HB.out|apply qA|apply qN|apply q1_)|exact HB.out)) hb);clear HO_4;clear HB;have HO_4:=n0_;have HO243:=n1_;have HB:=n2_;clear n0_ n1_ n2_;clear hb ho12))
      go_ret2
      exact ⟨_,by first|rfl|(simp [errW_none,errW_some] <;> rfl)|(simp [*,errW_none,errW_some] <;> rfl),Kd.R_V (by (with_reducible repeat first|apply Kd.R_alloc|apply Kd.R_drewN|apply Kd.R_drew);exact Kd.R_mono HO243.out (fun _ hk=>hk.1)),by repeat (first|(with_reducible first|exact HB.out|apply qA|apply qN|apply q1_)|exact HB.out)⟩
    ·rw [if_neg c5] at H
     exact absurd H (by simp)
   ·rw [if_neg c4] at H
    have c4b0:decide (x5_1<(l0.length:Int))=false:=decide_eq_false c4
    clear c4
    simp only [Option.some.injEq,Prod.mk.injEq] at H
    obtain ⟨rfl,rfl⟩:=H
    obtain ⟨Ao13,co13,eo13⟩:=Kd.V_slice HO_4.out
    subst eo13
    go_wp2
    go_ret2
    exact ⟨_,by first|rfl|(simp [errW_none,errW_some] <;> rfl)|(simp [*,errW_none,errW_some] <;> rfl),by (with_reducible repeat (first|apply Kd.V_alloc|apply Kd.V_drewN|apply Kd.V_drew));exact HO_4.out,by repeat (first|(with_reducible first|exact HB.out|apply qA|apply qN|apply q1_)|exact HB.out)⟩
def spec_l2Has.l0:Nat→List ByteArray→ByteArray→Int→Option (Bool)
 | 0,_,_,_=>none
 | k+1,x0,x1,x5=>if x5<(x0.length:Int) then (if 0≤x5 then (if (rdOf ByteArray.empty x0 x5).toList=x1.toList then (some true) else (spec_l2Has.l0 k x0 x1 (wrap64 (x5+1)))) else (none)) else (some false)
def spec_l2Has.f (k:Nat) (l0:List ByteArray) (a1:ByteArray):Option (Bool):=spec_l2Has.l0 k l0 a1 0
set_option maxHeartbeats 8000000 in
set_option maxRecDepth 100000 in
theorem spec_l2Has.calls (k:Nat) (A0:Option Addr) (c0:Nat) (l0:List ByteArray) (a1:ByteArray) (r:Bool) (w:World) (hr0:Kd.C Kd.string w A0 l0.length l0) (hc0:l0.length≤c0) (h:spec_l2Has.f k l0 a1=some r) :
  Calls Try.prog 58 #[.slice A0 l0.length c0,.string a1] w fun e w'=>e=.returned (.bool r)∧Drawn0 w w':=by
 have HR0:=Zz.mk hr0
 have HC0:=Zz.mk hc0
 clear hr0 hc0
 have H:(spec_l2Has.l0 k l0 a1 0)=some r:=h
 clear h
 have H':=Zz.mk H
 clear H
 go_enter Try.func58,Try.ntmps58
 go_wp2
 go_loopg [5] k (fun kq v5 w'=>∃ (x5_1:Int),v5=.int .i64 x5_1∧Zz (spec_l2Has.l0 kq l0 a1 x5_1=some r)∧Zz (kq≤k)∧Drawn0 w w')
 case atStart=>exact ⟨(0),(by first|rfl|(simp;done)|(simp [*];done)),H',⟨Nat.le_refl _⟩,by repeat (first|exact Drawn0.refl _|apply Drawn0.step)⟩
 case round =>
  clear H'
  try clear p2
  obtain ⟨x5_1,rfl,HA,HK1,⟨m1,rfl⟩⟩:=hrel
  cases gk with
  | zero=>exact absurd HA.out (by simp [spec_l2Has.l0])
  | succ k1 =>
   have H:=HA.out
   clear HA
   simp only [spec_l2Has.l0] at H
   by_cases c3:x5_1<(l0.length:Int)
   ·rw [if_pos c3] at H
    have c3b0:decide (x5_1<(l0.length:Int))=true:=decide_eq_true c3
    clear c3
    by_cases c4:0≤x5_1
    ·rw [if_pos c4] at H
     have c4b0:decide (0≤x5_1)=true:=decide_eq_true c4
     clear c4
     by_cases c5:(rdOf ByteArray.empty l0 x5_1).toList=a1.toList
     ·rw [if_pos c5] at H
      have c5b0:((rdOf ByteArray.empty l0 x5_1).toList == a1.toList)=true:=beq_iff_eq.mpr c5
      have c5b1:((rdOf ByteArray.empty l0 x5_1).toList != a1.toList)=false:=bne_eq_false_iff_eq.mpr c5
      clear c5
      obtain rfl:=Option.some.inj H
      have p244:0≤(x5_1:Int):=of_decide_eq_true (by first|(with_reducible assumption)|assumption)
      have q244:x5_1<(l0.length:Int):=of_decide_eq_true (by first|(with_reducible assumption)|assumption)
      obtain ⟨ad244,e244,hx244_0⟩:=Kd.at_string HR0.out x5_1 p244 q244
      cases e244
      replace p244:=eq_true p244
      replace q244:=eq_true q244
      go_wp2
      go_ret
      exact ⟨by first|rfl|(simp;done)|(simp [*];done),by repeat (first|exact Drawn0.refl _|apply Drawn0.step)⟩
     ·rw [if_neg c5] at H
      have c5b0:((rdOf ByteArray.empty l0 x5_1).toList == a1.toList)=false:=beq_eq_false_iff_ne.mpr c5
      have c5b1:((rdOf ByteArray.empty l0 x5_1).toList != a1.toList)=true:=bne_iff_ne.mpr c5
      have H':=Zz.mk H
      clear H
      have p244:0≤(x5_1:Int):=of_decide_eq_true (by first|(with_reducible assumption)|assumption)
      have q244:x5_1<(l0.length:Int):=of_decide_eq_true (by first|(with_reducible assumption)|assumption)
      obtain ⟨ad244,e244,hx244_0⟩:=Kd.at_string HR0.out x5_1 p244 q244
      cases e244
      replace p244:=eq_true p244
      replace q244:=eq_true q244
      go_wp2
      go_roundg k1
      case measure=>have:=HK1.out;omega
      case rel=>exact ⟨(wrap64 (x5_1+1)),(by first|rfl|(simp;done)|(simp [*];done)),H',⟨by have:=HK1.out;omega⟩,by repeat (first|exact Drawn0.refl _|apply Drawn0.step)⟩
    ·rw [if_neg c4] at H
     exact absurd H (by simp)
   ·rw [if_neg c3] at H
    have c3b0:decide (x5_1<(l0.length:Int))=false:=decide_eq_false c3
    clear c3
    obtain rfl:=Option.some.inj H
    go_wp2
    go_ret
    exact ⟨by first|rfl|(simp;done)|(simp [*];done),by repeat (first|exact Drawn0.refl _|apply Drawn0.step)⟩
def spec_l2Place.l0:Nat→List ByteArray→ByteArray→Int→Option (Int)
 | 0,_,_,_=>none
 | k+1,x0,x1,x5=>if x5<(x0.length:Int) then (if 0≤x5 then (if (rdOf ByteArray.empty x0 x5).toList=x1.toList then (some x5) else (spec_l2Place.l0 k x0 x1 (wrap64 (x5+1)))) else (none)) else (some (-1))
def spec_l2Place.f (k:Nat) (l0:List ByteArray) (a1:ByteArray):Option (Int):=spec_l2Place.l0 k l0 a1 0
set_option maxHeartbeats 8000000 in
set_option maxRecDepth 100000 in
theorem spec_l2Place.calls (k:Nat) (A0:Option Addr) (c0:Nat) (l0:List ByteArray) (a1:ByteArray) (r:Int) (w:World) (hr0:Kd.C Kd.string w A0 l0.length l0) (hc0:l0.length≤c0) (h:spec_l2Place.f k l0 a1=some r) :
  Calls Try.prog 59 #[.slice A0 l0.length c0,.string a1] w fun e w'=>e=.returned (.int .i64 r)∧Drawn0 w w':=by
 have HR0:=Zz.mk hr0
 have HC0:=Zz.mk hc0
 clear hr0 hc0
 have H:(spec_l2Place.l0 k l0 a1 0)=some r:=h
 clear h
 have H':=Zz.mk H
 clear H
 go_enter Try.func59,Try.ntmps59
 go_wp2
 go_loopg [5] k (fun kq v5 w'=>∃ (x5_1:Int),v5=.int .i64 x5_1∧Zz (spec_l2Place.l0 kq l0 a1 x5_1=some r)∧Zz (kq≤k)∧Drawn0 w w')
 case atStart=>exact ⟨(0),(by first|rfl|(simp;done)|(simp [*];done)),H',⟨Nat.le_refl _⟩,by repeat (first|exact Drawn0.refl _|apply Drawn0.step)⟩
 case round =>
  clear H'
  try clear p2
  obtain ⟨x5_1,rfl,HA,HK1,⟨m1,rfl⟩⟩:=hrel
  cases gk with
  | zero=>exact absurd HA.out (by simp [spec_l2Place.l0])
  | succ k1 =>
   have H:=HA.out
   clear HA
   simp only [spec_l2Place.l0] at H
   by_cases c3:x5_1<(l0.length:Int)
   ·rw [if_pos c3] at H
    have c3b0:decide (x5_1<(l0.length:Int))=true:=decide_eq_true c3
    clear c3
    by_cases c4:0≤x5_1
    ·rw [if_pos c4] at H
     have c4b0:decide (0≤x5_1)=true:=decide_eq_true c4
     clear c4
     by_cases c5:(rdOf ByteArray.empty l0 x5_1).toList=a1.toList
     ·rw [if_pos c5] at H
      have c5b0:((rdOf ByteArray.empty l0 x5_1).toList == a1.toList)=true:=beq_iff_eq.mpr c5
      have c5b1:((rdOf ByteArray.empty l0 x5_1).toList != a1.toList)=false:=bne_eq_false_iff_eq.mpr c5
      clear c5
      obtain rfl:=Option.some.inj H
      have p245:0≤(x5_1:Int):=of_decide_eq_true (by first|(with_reducible assumption)|assumption)
      have q245:x5_1<(l0.length:Int):=of_decide_eq_true (by first|(with_reducible assumption)|assumption)
      obtain ⟨ad245,e245,hx245_0⟩:=Kd.at_string HR0.out x5_1 p245 q245
      cases e245
      replace p245:=eq_true p245
      replace q245:=eq_true q245
      go_wp2
      go_ret
      exact ⟨by first|rfl|(simp;done)|(simp [*];done),by repeat (first|exact Drawn0.refl _|apply Drawn0.step)⟩
     ·rw [if_neg c5] at H
      have c5b0:((rdOf ByteArray.empty l0 x5_1).toList == a1.toList)=false:=beq_eq_false_iff_ne.mpr c5
      have c5b1:((rdOf ByteArray.empty l0 x5_1).toList != a1.toList)=true:=bne_iff_ne.mpr c5
      have H':=Zz.mk H
      clear H
      have p245:0≤(x5_1:Int):=of_decide_eq_true (by first|(with_reducible assumption)|assumption)
      have q245:x5_1<(l0.length:Int):=of_decide_eq_true (by first|(with_reducible assumption)|assumption)
      obtain ⟨ad245,e245,hx245_0⟩:=Kd.at_string HR0.out x5_1 p245 q245
      cases e245
      replace p245:=eq_true p245
      replace q245:=eq_true q245
      go_wp2
      go_roundg k1
      case measure=>have:=HK1.out;omega
      case rel=>exact ⟨(wrap64 (x5_1+1)),(by first|rfl|(simp;done)|(simp [*];done)),H',⟨by have:=HK1.out;omega⟩,by repeat (first|exact Drawn0.refl _|apply Drawn0.step)⟩
    ·rw [if_neg c4] at H
     exact absurd H (by simp)
   ·rw [if_neg c3] at H
    have c3b0:decide (x5_1<(l0.length:Int))=false:=decide_eq_false c3
    clear c3
    obtain rfl:=Option.some.inj H
    go_wp2
    go_ret
    exact ⟨by first|rfl|(simp;done)|(simp [*];done),by repeat (first|exact Drawn0.refl _|apply Drawn0.step)⟩
mutual
def spec_l2Of.l0:Nat→List ByteArray→List ByteArray→Int→Option ((List (S62)))
 | 0,_,_,_=>none
 | k+1,x0,x3,x4=>if x4<(x0.length:Int) then (spec_l2Of.l1 k x0 x3 x4 1) else (spec_l2Of.l2 k x0 x3 0 (([]:List (S62))))
def spec_l2Of.l1:Nat→List ByteArray→List ByteArray→Int→Int→Option ((List (S62)))
 | 0,_,_,_,_=>none
 | k+1,x0,x3,x4,x5=>if 0≤x4 then (if x4<(x0.length:Int) then (if x5≤((rdOf ByteArray.empty x0 x4).size:Int) then (if 0≤x5 then ((spec_l2Put.f k x3 ((rdOf ByteArray.empty x0 x4).extract 0 (x5:Int).toNat)).bind fun t252=>(spec_l2Of.l1 k x0 t252 x4 (wrap64 (x5+1)))) else (none)) else (spec_l2Of.l0 k x0 x3 (wrap64 (x4+1)))) else (none)) else (none)
def spec_l2Of.l2:Nat→List ByteArray→List ByteArray→Int→List (S62)→Option ((List (S62)))
 | 0,_,_,_,_=>none
 | k+1,x0,x3,x7,x259000=>if x7<(x3.length:Int) then (if 0≤x7 then ((spec_l2Has.f k x0 (rdOf ByteArray.empty x3 x7)).bind fun t260=>(if x7 > 0 then (if 0≤(wrap64 (((rdOf ByteArray.empty x3 x7).size:Int) - 1)) then (if (wrap64 (((rdOf ByteArray.empty x3 x7).size:Int) - 1))<((rdOf ByteArray.empty x3 x7).size:Int) then (if (wrap64 (((rdOf ByteArray.empty x3 x7).size:Int) - 1))≤((rdOf ByteArray.empty x3 x7).size:Int) then ((spec_l2Place.f k x3 ((rdOf ByteArray.empty x3 x7).extract 0 ((wrap64 (((rdOf ByteArray.empty x3 x7).size:Int) - 1)):Int).toNat)).bind fun t262=>(if x259000.length<5864062014805 then (spec_l2Of.l2 k x0 x3 (wrap64 (x7+1)) (x259000 ++ [(⟨((bt (rdOf ByteArray.empty x3 x7) (wrap64 (((rdOf ByteArray.empty x3 x7).size:Int) - 1))) - 97) % 256,t262,t260⟩:S62)])) else (none))) else (none)) else (none)) else (none)) else (if x259000.length<5864062014805 then (spec_l2Of.l2 k x0 x3 (wrap64 (x7+1)) (x259000 ++ [(⟨(-1),(-1),t260⟩:S62)])) else (none)))) else (none)) else (some x259000)
end
def spec_l2Of.f (k:Nat) (l0:List ByteArray):Option ((List (S62))):=spec_l2Of.l0 k l0 (([(⟨#[]⟩:ByteArray)]:List ByteArray)) 0
set_option maxHeartbeats 8000000 in
set_option maxRecDepth 100000 in
theorem spec_l2Of.calls (k:Nat) (A0:Option Addr) (c0:Nat) (l0:List ByteArray) (r:List (S62)) (w:World) (hr0:Kd.C Kd.string w A0 l0.length l0) (hc0:l0.length≤c0) (h:spec_l2Of.f k l0=some r) :
  Calls Try.prog 33 #[.slice A0 l0.length c0] w fun e w'=>∃ v0_:Value,e=.returned (.agg #[v0_])∧Kd.R k62 62 w' w.heap.size (fun _=>True) v0_ r∧Below w.heap.size w w':=by
 have hu24:=Try.underlying24
 have hu62:=Try.underlying62
 have HR0:=Zz.mk hr0
 have HC0:=Zz.mk hc0
 clear hr0 hc0
 have HB:=Zz.mk (Below.refl w.heap.size w)
 have H:(spec_l2Of.l0 k l0 (([(⟨#[]⟩:ByteArray)]:List ByteArray)) 0)=some r:=h
 clear h
 obtain ⟨y247,hy247⟩:∃ y_:List ByteArray,y_=(([(⟨#[]⟩:ByteArray)]:List ByteArray)):=⟨_,rfl⟩
 replace H:(spec_l2Of.l0 k l0 y247 0)=some r:=by first|(rw [hy247];with_reducible exact H)|(have H2_:=(Option.bind_some _ _).symm.trans H;rw [hy247];with_reducible exact H2_)|(have H2_:=(Option.bind_some _ _).symm.trans H;with_reducible exact H2_)|with_reducible exact H|(rw [hy247];exact H)|exact H
 have Ny247:=Zz.mk hy247
 clear hy247
 have H':=Zz.mk H
 clear H
 go_enter Try.func33,Try.ntmps33
 go_wp2_with (first|((with_reducible refine gate_dst (N:=2) rfl ?_);refine box_event ?hg (N:=2) ?hd (cs:=#[.slice none 0 0]) (t:=24) ?hr ?_;(case hd=>rfl);(case hg=>rfl);(case hr=>first|(go_simp;done)|(go_simp;rfl));intro gb246 hg w2 hbox hb;have n0_:=Zz.mk (qP (by repeat (first|(with_reducible first|exact HB.out|apply qA|apply qN|apply q1_)|exact HB.out)) hb);have n1_:=Zz.mk (hbox);have n2_:=Zz.mk ((by rw [hg];exact (qZ (by repeat (first|(with_reducible first|exact HB.out|apply qA|apply qN|apply q1_)|exact HB.out))):w.heap.size≤gb246));have n3_:=Zz.mk ((by rw [hg];exact (qZ (by repeat (first|(with_reducible first|exact HB.out|apply qA|apply qN|apply q1_)|exact HB.out))):w.heap.size≤gb246));clear HB;have HB:=n0_;have BK246:=n1_;have GW246:=n2_;have GE246:=n3_;clear n0_ n1_ n2_ n3_;clear hb hbox hg)|((with_reducible refine gate_dst (N:=10) rfl ?_);refine Kd.R_lit Kd.string _ 9 ?hg (N:=10) ?hd (xs:=([(⟨#[]⟩:ByteArray)]:List ByteArray)) (inner:=[.string (⟨#[]⟩:ByteArray)]) (ok:=fun _=>True) (okp:=fun _=>True) ?hr ?hp (fun _ hk=>hk) trivial (Below.refl _ _) (Nat.le_refl _) (by simp) ?_;(case hd=>rfl);(case hg=>rfl);(case hr=>first|(go_simp;done)|(go_simp;rfl));(case hp=>exact (Reps.one (show Kd.M Kd.string _ _ _ (⟨#[]⟩:ByteArray) [.string (⟨#[]⟩:ByteArray)] from rfl) (Reps.none _ _)));intro v248 w3 ho4 hb hg_ hnew_;clear hg_ hnew_;(first|rw [← Ny247.out] at ho4|(simp only [Int.reduceToNat] at ho4;rw [← Ny247.out] at ho4));have n0_:=Zz.mk (Kd.R_lower ho4 (qZ (by repeat (first|(with_reducible first|exact HB.out|apply qA|apply qN|apply q1_|refine qS ?_ GE246.out)|exact HB.out))));have n1_:=Zz.mk (bB (g:=gb246) (o:=.cells #[.slice none 0 0] 24 (0,0)) (by (with_reducible repeat first|apply bN|apply bD|apply bA);exact BK246.out) hb);have n2_:=Zz.mk (qP (by repeat (first|(with_reducible first|exact HB.out|apply qA|apply qN|apply q1_|refine qS ?_ GE246.out)|exact HB.out)) hb);clear BK246;clear HB;have HO249:=n0_;have BK246:=n1_;have HB:=n2_;clear n0_ n1_ n2_;clear hb ho4))
 go_loopg [3,4] k (fun kq v3 v4 w'=>∃ (x3_1:List ByteArray) (x4_1:Int),v4=.int .i64 x4_1∧Zz (spec_l2Of.l0 kq l0 x3_1 x4_1=some r)∧Zz (kq≤k)∧Zz (Kd.V Kd.string 9 w' w.heap.size (fun k_=>k_ ≠ gb246) v3 x3_1)∧Zz (w'.heap[gb246]?=some (.cells #[(.slice none 0 0)] 24 (0,0)))∧Zz (Below w.heap.size w w'))
 case atStart=>exact ⟨(y247),(0),(by first|rfl|(simp;done)|(simp [*];done)),H',⟨Nat.le_refl _⟩,⟨Kd.R_V (by (with_reducible repeat first|apply Kd.R_alloc|apply Kd.R_drewN|apply Kd.R_drew);exact Kd.R_mono (Kd.R_types HO249.out BK246.out (by decide)) (fun _ hk=>hk.2))⟩,⟨by (with_reducible repeat first|apply bN|apply bD|apply bA);exact BK246.out⟩,⟨by repeat (first|(with_reducible first|exact HB.out|apply qA|apply qN|apply q1_|refine qS ?_ GE246.out)|exact HB.out)⟩⟩
 case round =>
  clear H'
  try clear p2
  try clear c3
  obtain ⟨x3_1,x4_1,rfl,HA,HK1,HO_3,BK246,HB⟩:=hrel
  cases gk with
  | zero=>exact absurd HA.out (by simp [spec_l2Of.l0])
  | succ k1 =>
   have H:=HA.out
   clear HA
   simp only [spec_l2Of.l0] at H
   by_cases c5:x4_1<(l0.length:Int)
   ·rw [if_pos c5] at H
    have c5b0:decide (x4_1<(l0.length:Int))=true:=decide_eq_true c5
    clear c5
    have H':=Zz.mk H
    clear H
    go_wp2
    go_loopg [3,5] k1 (fun kq v3 v5 w'=>∃ (x3_2:List ByteArray) (x5_2:Int),v5=.int .i64 x5_2∧Zz (spec_l2Of.l1 kq l0 x3_2 x4_1 x5_2=some r)∧Zz (kq≤k1)∧Zz (Kd.V Kd.string 9 w' w.heap.size (fun k_=>k_ ≠ gb246) v3 x3_2)∧Zz (w'.heap[gb246]?=some (.cells #[(.slice none 0 0)] 24 (0,0)))∧Zz (Below w.heap.size w w'))
    case atStart=>exact ⟨(x3_1),(1),(by first|rfl|(simp;done)|(simp [*];done)),H',⟨Nat.le_refl _⟩,⟨by (with_reducible repeat (first|apply Kd.V_alloc|apply Kd.V_drewN|apply Kd.V_drew));exact HO_3.out⟩,⟨by (with_reducible repeat first|apply bN|apply bD|apply bA);exact BK246.out⟩,⟨by repeat (first|(with_reducible first|exact HB.out|apply qA|apply qN|apply q1_|refine qS ?_ GE246.out)|exact HB.out)⟩⟩
    case round =>
     clear H'
     try clear p2
     try clear c3
     try clear c5
     try clear c5b0
     try clear p2
     obtain ⟨x3_2,x5_2,rfl,HA,HK2,HO_3,BK246,HB⟩:=hrel
     cases gk with
     | zero=>exact absurd HA.out (by simp [spec_l2Of.l1])
     | succ k2 =>
      have H:=HA.out
      clear HA
      simp only [spec_l2Of.l1] at H
      by_cases c6:0≤x4_1
      ·rw [if_pos c6] at H
       have c6b0:decide (0≤x4_1)=true:=decide_eq_true c6
       clear c6
       by_cases c7:x4_1<(l0.length:Int)
       ·rw [if_pos c7] at H
        have c7b0:decide (x4_1<(l0.length:Int))=true:=decide_eq_true c7
        clear c7
        by_cases c8:x5_2≤((rdOf ByteArray.empty l0 x4_1).size:Int)
        ·rw [if_pos c8] at H
         have c8b0:decide (x5_2≤((rdOf ByteArray.empty l0 x4_1).size:Int))=true:=decide_eq_true c8
         clear c8
         by_cases c9:0≤x5_2
         ·rw [if_pos c9] at H
          have c9b0:=eq_true c9
          have c9b1:decide (0≤x5_2)=true:=decide_eq_true c9
          clear c9
          have c10b0:=eq_true (of_decide_eq_true (by first|(with_reducible assumption)|assumption):x5_2≤((rdOf ByteArray.empty l0 x4_1).size:Int))
          replace H:=Option.bind_eq_some_iff.mp H
          obtain ⟨t252,A110,H⟩:=H
          replace H:(spec_l2Of.l1 k2 l0 t252 x4_1 (wrap64 (x5_2+1)))=some r:=H
          have A11:=Zz.mk A110
          clear A110
          have H':=Zz.mk H
          clear H
          have p250:0≤(x4_1:Int):=of_decide_eq_true (by first|(with_reducible assumption)|assumption)
          have q250:x4_1<(l0.length:Int):=of_decide_eq_true (by first|(with_reducible assumption)|assumption)
          obtain ⟨ad250,e250,hx250_0⟩:=Kd.at_string HR0.out x4_1 p250 q250
          cases e250
          replace hx250_0:=(HB.out.cell (World.block_lt_of_cell? w _ hx250_0)).trans hx250_0
          replace p250:=eq_true p250
          replace q250:=eq_true q250
          have p251:0≤(x4_1:Int):=of_decide_eq_true (by first|(with_reducible assumption)|assumption)
          have q251:x4_1<(l0.length:Int):=of_decide_eq_true (by first|(with_reducible assumption)|assumption)
          obtain ⟨ad251,e251,hx251_0⟩:=Kd.at_string HR0.out x4_1 p251 q251
          obtain rfl:ad250=ad251:=(by injection e251)
          replace hx251_0:=(HB.out.cell (World.block_lt_of_cell? w _ hx251_0)).trans hx251_0
          replace p251:=eq_true p251
          replace q251:=eq_true q251
          obtain ⟨Ao12,co12,eo12⟩:=Kd.V_slice HO_3.out
          subst eo12
          go_wp2_with (first|((with_reducible refine gate_callee (f:=57) rfl ?_);refine goesL_ (some 33) rfl rfl Try.func57 (by kernel_rfl) rfl #[.slice Ao12 x3_2.length co12,.string ((rdOf ByteArray.empty l0 x4_1).extract 0 (x5_2:Int).toNat)] rfl (by (try simp only [List.map_toArray,List.map_cons,List.map_nil]);first|done|rfl|(simp only [List.length_drop,List.length_take];rfl)) ?_;(with_reducible refine (spec_l2Put.calls k2 (fun k_=>k_ ≠ gb246) _ _ x3_2 ((rdOf ByteArray.empty l0 x4_1).extract 0 (x5_2:Int).toNat) t252 _ ?side1 A11.out).mono ?_);(case side1=>exact HO_3.out);rintro e w13 ⟨v253,rfl,ho0,hb⟩;refine ⟨_,rfl,?_⟩;have n0_:=Zz.mk (Kd.V_below (by (with_reducible repeat (first|apply Kd.V_alloc|apply Kd.V_drewN|apply Kd.V_drew));exact HO_3.out) hb);have n1_:=Zz.mk (Kd.V_lower (Kd.V_mono (ok':=fun k_=>k_ ≠ gb246) ho0 (fun k_ hk_=>Or.elim hk_ (fun hs_=>hs_) (fun hn_=>(Kd.freshB (g:=gb246) (o:=.cells #[.slice none 0 0] 24 (0,0)) (by (with_reducible repeat first|apply bN|apply bD|apply bA);exact BK246.out) k_ hn_)))) (qZ (by repeat (first|(with_reducible first|exact HB.out|apply qA|apply qN|apply q1_|refine qS ?_ GE246.out)|exact HB.out))));have n2_:=Zz.mk (bB (g:=gb246) (o:=.cells #[.slice none 0 0] 24 (0,0)) (by (with_reducible repeat first|apply bN|apply bD|apply bA);exact BK246.out) hb);have n3_:=Zz.mk (qP (by repeat (first|(with_reducible first|exact HB.out|apply qA|apply qN|apply q1_|refine qS ?_ GE246.out)|exact HB.out)) hb);clear HO_3;clear BK246;clear HB;have HO_3:=n0_;have HO254:=n1_;have BK246:=n2_;have HB:=n3_;clear n0_ n1_ n2_ n3_;(try clear hb);(try clear hb2);(try clear hk);(try clear hi);(try clear ho0)))
          go_roundg k2
          case measure=>have:=HK1.out;have:=HK2.out;omega
          case rel=>exact ⟨(t252),(wrap64 (x5_2+1)),(by first|rfl|(simp;done)|(simp [*];done)),H',⟨by have:=HK1.out;have:=HK2.out;omega⟩,⟨by (with_reducible repeat (first|apply Kd.V_alloc|apply Kd.V_drewN|apply Kd.V_drew));exact HO254.out⟩,⟨by (with_reducible repeat first|apply bN|apply bD|apply bA);exact BK246.out⟩,⟨by repeat (first|(with_reducible first|exact HB.out|apply qA|apply qN|apply q1_|refine qS ?_ GE246.out)|exact HB.out)⟩⟩
         ·rw [if_neg c9] at H
          exact absurd H (by simp)
        ·rw [if_neg c8] at H
         have c8b0:decide (x5_2≤((rdOf ByteArray.empty l0 x4_1).size:Int))=false:=decide_eq_false c8
         clear c8
         have H':=Zz.mk H
         clear H
         have p250:0≤(x4_1:Int):=of_decide_eq_true (by first|(with_reducible assumption)|assumption)
         have q250:x4_1<(l0.length:Int):=of_decide_eq_true (by first|(with_reducible assumption)|assumption)
         obtain ⟨ad250,e250,hx250_0⟩:=Kd.at_string HR0.out x4_1 p250 q250
         cases e250
         replace hx250_0:=(HB.out.cell (World.block_lt_of_cell? w _ hx250_0)).trans hx250_0
         replace p250:=eq_true p250
         replace q250:=eq_true q250
         go_wp2
         go_roundg k2
         case measure=>have:=HK1.out;have:=HK2.out;omega
         case rel=>exact ⟨(x3_2),(wrap64 (x4_1+1)),(by first|rfl|(simp;done)|(simp [*];done)),H',⟨by have:=HK1.out;have:=HK2.out;omega⟩,⟨by (with_reducible repeat (first|apply Kd.V_alloc|apply Kd.V_drewN|apply Kd.V_drew));exact HO_3.out⟩,⟨by (with_reducible repeat first|apply bN|apply bD|apply bA);exact BK246.out⟩,⟨by repeat (first|(with_reducible first|exact HB.out|apply qA|apply qN|apply q1_|refine qS ?_ GE246.out)|exact HB.out)⟩⟩
       ·rw [if_neg c7] at H
        exact absurd H (by simp)
      ·rw [if_neg c6] at H
       exact absurd H (by simp)
   ·rw [if_neg c5] at H
    have c5b0:decide (x4_1<(l0.length:Int))=false:=decide_eq_false c5
    clear c5
    obtain ⟨y255,hy255⟩:∃ y_:List (S62),y_=(([]:List (S62))):=⟨_,rfl⟩
    replace H:(spec_l2Of.l2 k1 l0 x3_1 0 y255)=some r:=by first|(rw [hy255];with_reducible exact H)|(have H2_:=(Option.bind_some _ _).symm.trans H;rw [hy255];with_reducible exact H2_)|(have H2_:=(Option.bind_some _ _).symm.trans H;with_reducible exact H2_)|with_reducible exact H|(rw [hy255];exact H)|exact H
    have Ny255:=Zz.mk hy255
    clear hy255
    have H':=Zz.mk H
    clear H
    go_wp2_with (first|((with_reducible refine gate_dst (N:=34) rfl ?_);refine Kd.R_lit k62 _ 62 ?hg (N:=34) ?hd (xs:=([]:List (S62))) (inner:=[]) (ok:=fun _=>True) (okp:=fun _=>True) ?hr ?hp (fun _ hk=>hk) trivial (Below.refl _ _) (Nat.le_refl _) (by simp) ?_;(case hd=>rfl);(case hg=>rfl);(case hr=>first|(go_simp;done)|(go_simp;rfl));(case hp=>exact (Reps.none _ _));intro v256 w14 ho15 hb hg_ hnew_;clear hg_ hnew_;(first|rw [← Ny255.out] at ho15|(simp only [Int.reduceToNat] at ho15;rw [← Ny255.out] at ho15));have n0_:=Zz.mk (Kd.V_elder' (by (with_reducible repeat (first|apply Kd.V_alloc|apply Kd.V_drewN|apply Kd.V_drew));exact HO_3.out) (Kd.R_base ho15) hb);have n1_:=Zz.mk (Kd.R_lower ho15 (qZ (by repeat (first|(with_reducible first|exact HB.out|apply qA|apply qN|apply q1_|refine qS ?_ GE246.out)|exact HB.out))));have n2_:=Zz.mk (bB (g:=gb246) (o:=.cells #[.slice none 0 0] 24 (0,0)) (by (with_reducible repeat first|apply bN|apply bD|apply bA);exact BK246.out) hb);have n3_:=Zz.mk (qP (by repeat (first|(with_reducible first|exact HB.out|apply qA|apply qN|apply q1_|refine qS ?_ GE246.out)|exact HB.out)) hb);clear HO_3;clear BK246;clear HB;have HO_3:=n0_;have HO257:=n1_;have BK246:=n2_;have HB:=n3_;clear n0_ n1_ n2_ n3_;clear hb ho15;obtain ⟨Ao16,co16,eo16⟩:=Kd.R_slice HO257.out;subst eo16)|((with_reducible refine gate_dst (N:=6) rfl ?_);refine box_event ?hg (N:=6) ?hd (cs:=#[.slice none 0 0]) (t:=24) ?hr ?_;(case hd=>rfl);(case hg=>rfl);(case hr=>first|(go_simp;done)|(go_simp;rfl));intro gb258 hg w17 hbox hb;have n0_:=Zz.mk (Kd.V_below (Kd.V_elderB (by (with_reducible repeat (first|apply Kd.V_alloc|apply Kd.V_drewN|apply Kd.V_drew));exact HO_3.out) gb258 (Nat.le_of_eq hg.symm)) hb);have n1_:=Zz.mk (Kd.R_below (by (with_reducible repeat first|apply Kd.R_alloc|apply Kd.R_drewN|apply Kd.R_drew);exact HO257.out) hb);have n2_:=Zz.mk (bB (g:=gb246) (o:=.cells #[.slice none 0 0] 24 (0,0)) (by (with_reducible repeat first|apply bN|apply bD|apply bA);exact BK246.out) hb);have n3_:=Zz.mk (qP (by repeat (first|(with_reducible first|exact HB.out|apply qA|apply qN|apply q1_|refine qS ?_ GE246.out)|exact HB.out)) hb);have n4_:=Zz.mk (hbox);have n5_:=Zz.mk ((by rw [hg];exact (qZ (by repeat (first|(with_reducible first|exact HB.out|apply qA|apply qN|apply q1_|refine qS ?_ GE246.out)|exact HB.out))):w.heap.size≤gb258));have n6_:=Zz.mk ((by rw [hg];exact (qZ (by repeat (first|(with_reducible first|exact HB.out|apply qA|apply qN|apply q1_|refine qS ?_ GE246.out)|exact HB.out))):w.heap.size≤gb258));have n7_:=Zz.mk ((by rw [hg];exact Nat.ne_of_lt (blk_lt (g:=gb246) (o:=.cells #[.slice none 0 0] 24 (0,0)) (by (with_reducible repeat first|apply bN|apply bD|apply bA);exact BK246.out)):gb246 ≠ gb258));have n8_:=Zz.mk ((by rw [hg];exact Nat.ne_of_gt (blk_lt (g:=gb246) (o:=.cells #[.slice none 0 0] 24 (0,0)) (by (with_reducible repeat first|apply bN|apply bD|apply bA);exact BK246.out)):gb258 ≠ gb246));clear HO_3;clear HO257;clear BK246;clear HB;have HO_3:=n0_;have HO257:=n1_;have BK246:=n2_;have HB:=n3_;have BK258:=n4_;have GW258:=n5_;have GE258:=n6_;have NB246_258:=n7_;have NB258_246:=n8_;clear n0_ n1_ n2_ n3_ n4_ n5_ n6_ n7_ n8_;clear hb hbox hg;have hnb18:=NB258_246.out;have hnc18:=NB246_258.out;have hcz19_0:w17.cell? ⟨gb258,0,none⟩=some (.slice none 0 0):=(bC BK258.out 0).trans rfl;have hfz19_0:=bF BK258.out 0))
    go_loopg [7] k1 (fun kq v7 w'=>∃ (x7_2:Int) (x259000_2:List (S62)) (u259000:Value),v7=.int .i64 x7_2∧Zz (spec_l2Of.l2 kq l0 x3_1 x7_2 x259000_2=some r)∧Zz (kq≤k1)∧Zz (Kd.V Kd.string 9 w' w.heap.size (fun k_=>some k_ ≠ (u259000:Value).ownBlock∧k_ ≠ gb246∧k_ ≠ gb258) u3 x3_1)∧Zz (Kd.R k62 62 w' w.heap.size (fun _=>True) u259000 x259000_2)∧Zz (w'.heap[gb246]?=some (.cells #[(.slice none 0 0)] 24 (0,0)))∧Zz (w'.heap[gb258]?=some (.cells #[u259000] 24 (0,0)))∧Zz (Below w.heap.size w w'))
    case atStart=>exact ⟨(0),(y255),(.slice Ao16 y255.length co16),(by first|rfl|(simp;done)|(simp [*];done)),H',⟨Nat.le_refl _⟩,⟨by (with_reducible repeat (first|apply Kd.V_alloc|apply Kd.V_drewN|apply Kd.V_drew));exact Kd.V_mono (V_same_ (Kd.V_far (p:=⟨gb258,0,none⟩) (Kd.V_mono HO_3.out (fun k_ hk=>(⟨hk,hk.2⟩:_∧k_ ≠ gb258))) (fun _ hk=>hk.2) (.slice Ao16 y255.length co16)) rfl) (fun _ hk=>⟨hk.1.1.2,⟨hk.1.1.1,hk.1.2⟩⟩)⟩,⟨by (with_reducible repeat first|apply Kd.R_alloc|apply Kd.R_drewN|apply Kd.R_drew);exact Kd.R_mono (R_same_ (Kd.R_far (p:=⟨gb258,0,none⟩) (Kd.R_types HO257.out BK258.out (by decide)) (fun _ hk=>hk.2) (.slice Ao16 y255.length co16)) rfl) (fun _ hk=>trivial)⟩,⟨by (with_reducible repeat first|apply bN|apply bD|apply bA);refine blk_far ?_ NB246_258.out _;(with_reducible repeat first|apply bN|apply bD|apply bA);exact BK246.out⟩,⟨by (with_reducible repeat first|apply bN|apply bD|apply bA);refine blk_put (cs:=#[.slice none 0 0]) ?_ 0 _ rfl;(with_reducible repeat first|apply bN|apply bD|apply bA);exact BK258.out⟩,⟨by repeat (first|(with_reducible first|exact HB.out|apply qA|apply qN|apply q1_|refine qS ?_ GE246.out|refine qS ?_ GE258.out)|exact HB.out)⟩⟩
    case round =>
     clear H'
     try clear c1
     try clear p2
     try clear q2
     try clear hx2
     try clear c3
     try clear c5
     try clear c5b0
     try clear c6
     try clear c6b0
     try clear p6
     try clear c7
     try clear c7b0
     try clear c8
     try clear c8b0
     try clear c9
     try clear c9b0
     try clear c9b1
     try clear c10
     try clear c10b0
     try clear c18
     try clear hcz19_0
     try clear hfz19_0
     try clear hx250_0
     try clear hx251_0
     try clear p2
     try clear p250
     try clear p251
     try clear q250
     try clear q251
     obtain ⟨x7_2,x259000_2,u259000,rfl,HA,HK2,HO_3,HO_259000,BK246,BK258,HB⟩:=hrel
     cases gk with
     | zero=>exact absurd HA.out (by simp [spec_l2Of.l2])
     | succ k2 =>
      have H:=HA.out
      clear HA
      simp only [spec_l2Of.l2] at H
      by_cases c20:x7_2<(x3_1.length:Int)
      ·rw [if_pos c20] at H
       have c20b0:decide (x7_2<(x3_1.length:Int))=true:=decide_eq_true c20
       clear c20
       by_cases c21:0≤x7_2
       ·rw [if_pos c21] at H
        have c21b0:decide (0≤x7_2)=true:=decide_eq_true c21
        clear c21
        replace H:=Option.bind_eq_some_iff.mp H
        obtain ⟨t260,A220,H⟩:=H
        replace H:(if x7_2 > 0 then (if 0≤(wrap64 (((rdOf ByteArray.empty x3_1 x7_2).size:Int) - 1)) then (if (wrap64 (((rdOf ByteArray.empty x3_1 x7_2).size:Int) - 1))<((rdOf ByteArray.empty x3_1 x7_2).size:Int) then (if (wrap64 (((rdOf ByteArray.empty x3_1 x7_2).size:Int) - 1))≤((rdOf ByteArray.empty x3_1 x7_2).size:Int) then ((spec_l2Place.f k2 x3_1 ((rdOf ByteArray.empty x3_1 x7_2).extract 0 ((wrap64 (((rdOf ByteArray.empty x3_1 x7_2).size:Int) - 1)):Int).toNat)).bind fun t262=>(if x259000_2.length<5864062014805 then (spec_l2Of.l2 k2 l0 x3_1 (wrap64 (x7_2+1)) (x259000_2 ++ [(⟨((bt (rdOf ByteArray.empty x3_1 x7_2) (wrap64 (((rdOf ByteArray.empty x3_1 x7_2).size:Int) - 1))) - 97) % 256,t262,t260⟩:S62)])) else (none))) else (none)) else (none)) else (none)) else (if x259000_2.length<5864062014805 then (spec_l2Of.l2 k2 l0 x3_1 (wrap64 (x7_2+1)) (x259000_2 ++ [(⟨(-1),(-1),t260⟩:S62)])) else (none)))=some r:=H
        have A22:=Zz.mk A220
        clear A220
        by_cases c23:x7_2 > 0
        ·rw [if_pos c23] at H
         have c23b0:decide (0<x7_2)=true:=decide_eq_true c23
         clear c23
         obtain ⟨ji24,hji24⟩:∃ j_:Int,(wrap64 (((rdOf ByteArray.empty x3_1 x7_2).size:Int) - 1))=j_:=⟨_,rfl⟩
         replace H:(if 0≤(ji24) then (if (ji24)<((rdOf ByteArray.empty x3_1 x7_2).size:Int) then (if (ji24)≤((rdOf ByteArray.empty x3_1 x7_2).size:Int) then ((spec_l2Place.f k2 x3_1 ((rdOf ByteArray.empty x3_1 x7_2).extract 0 ((ji24):Int).toNat)).bind fun t262=>(if x259000_2.length<5864062014805 then (spec_l2Of.l2 k2 l0 x3_1 (wrap64 (x7_2+1)) (x259000_2 ++ [(⟨((bt (rdOf ByteArray.empty x3_1 x7_2) (ji24)) - 97) % 256,t262,t260⟩:S62)])) else (none))) else (none)) else (none)) else (none))=some r:=by first|(rw [hji24] at H;exact H)|(simp only [hji24] at H ⊢;exact H)
         (try rw [hji24] at A22)
         have hji24w:(IntKind.i64.wrap (((rdOf ByteArray.empty x3_1 x7_2).size:Int) - 1))=ji24:=(i64_w _).trans hji24
         by_cases c25:0≤(ji24)
         ·rw [if_pos c25] at H
          have c25b0:decide (0≤(ji24))=true:=decide_eq_true c25
          clear c25
          by_cases c26:(ji24)<((rdOf ByteArray.empty x3_1 x7_2).size:Int)
          ·rw [if_pos c26] at H
           have c26b0:decide ((ji24)<((rdOf ByteArray.empty x3_1 x7_2).size:Int))=true:=decide_eq_true c26
           clear c26
           have c28b0:=eq_true (of_decide_eq_true (by first|(with_reducible assumption)|assumption):0≤(ji24))
           by_cases c29:(ji24)≤((rdOf ByteArray.empty x3_1 x7_2).size:Int)
           ·rw [if_pos c29] at H
            have c29b0:=eq_true c29
            have c29b1:decide ((ji24)≤((rdOf ByteArray.empty x3_1 x7_2).size:Int))=true:=decide_eq_true c29
            clear c29
            replace H:=Option.bind_eq_some_iff.mp H
            obtain ⟨t262,A300,H⟩:=H
            replace H:(if x259000_2.length<5864062014805 then (spec_l2Of.l2 k2 l0 x3_1 (wrap64 (x7_2+1)) (x259000_2 ++ [(⟨((bt (rdOf ByteArray.empty x3_1 x7_2) (ji24)) - 97) % 256,t262,t260⟩:S62)])) else (none))=some r:=H
            have A30:=Zz.mk A300
            clear A300
            by_cases c31:x259000_2.length<5864062014805
            ·rw [if_pos c31] at H
             have LMc31:=Zz.mk c31
             clear c31
             obtain ⟨y263,hy263⟩:∃ y_:List (S62),y_=(x259000_2 ++ [(⟨((bt (rdOf ByteArray.empty x3_1 x7_2) (ji24)) - 97) % 256,t262,t260⟩:S62)]):=⟨_,rfl⟩
             replace H:(spec_l2Of.l2 k2 l0 x3_1 (wrap64 (x7_2+1)) y263)=some r:=by first|(rw [hy263];with_reducible exact H)|(have H2_:=(Option.bind_some _ _).symm.trans H;rw [hy263];with_reducible exact H2_)|(have H2_:=(Option.bind_some _ _).symm.trans H;with_reducible exact H2_)|with_reducible exact H|(rw [hy263];exact H)|exact H
             have Ny263:=Zz.mk hy263
             clear hy263
             have H':=Zz.mk H
             clear H
             obtain ⟨Ao32,co32,eo32⟩:=Kd.V_slice HO_3.out
             subst eo32
             have p259:0≤(x7_2:Int):=of_decide_eq_true (by first|(with_reducible assumption)|assumption)
             have q259:x7_2<(x3_1.length:Int):=of_decide_eq_true (by first|(with_reducible assumption)|assumption)
             obtain ⟨ad259,e259,hx259_0⟩:=Kd.at_string (Kd.V_reads' HO_3.out).2.2 x7_2 p259 q259
             cases e259
             replace p259:=eq_true p259
             replace q259:=eq_true q259
             go_wp2_with (first|((with_reducible refine gate_callee (f:=58) rfl ?_);refine goesL_ (some 48) rfl rfl Try.func58 (by kernel_rfl) rfl #[.slice A0 l0.length c0,.string (rdOf ByteArray.empty x3_1 x7_2)] rfl (by (try simp only [List.map_toArray,List.map_cons,List.map_nil]);first|done|rfl|(simp only [List.length_drop,List.length_take];rfl)) ?_;(with_reducible refine (spec_l2Has.calls k2 _ _ l0 (rdOf ByteArray.empty x3_1 x7_2) t260 _ ?side1 ?side2 A22.out).mono ?_);(case side1=>repeat (first|exact (Kd.C_below HR0.out HB.out)|(with_reducible refine Kd.C_alloc ?_ _)|(with_reducible refine Kd.C_drewN ?_ _)|(with_reducible refine Kd.C_drew ?_)));(case side2=>exact HC0.out);rintro e w' ⟨rfl,⟨nd,rfl⟩⟩;refine ⟨_,rfl,?_⟩;(try (rw [drewN_self wr];generalize hq_:World.drewN wr _=wr;have n0_:Zz (Kd.R k62 62 wr w.heap.size (fun _=>True) u259000 x259000_2):=⟨by rw [← hq_];exact (by (with_reducible repeat first|apply Kd.R_alloc|apply Kd.R_drewN|apply Kd.R_drew);exact HO_259000.out)⟩;have n1_:Zz (Kd.V Kd.string 9 wr w.heap.size (fun k_=>some k_ ≠ (u259000:Value).ownBlock∧k_ ≠ gb246∧k_ ≠ gb258) (.slice (some ad259) x3_1.length co32) x3_1):=⟨by rw [← hq_];exact (by (with_reducible repeat (first|apply Kd.V_alloc|apply Kd.V_drewN|apply Kd.V_drew));exact HO_3.out)⟩;have n2_:Zz (wr.heap[gb246]?=some (.cells #[.slice none 0 0] 24 (0,0))):=⟨by rw [← hq_];exact (by (with_reducible repeat first|apply bN|apply bD|apply bA);exact BK246.out)⟩;have n3_:Zz (wr.heap[gb258]?=some (.cells #[u259000] 24 (0,0))):=⟨by rw [← hq_];exact (by (with_reducible repeat first|apply bN|apply bD|apply bA);exact BK258.out)⟩;have n4_:Zz (Below w.heap.size w wr):=⟨by rw [← hq_];exact (by repeat (first|(with_reducible first|exact HB.out|apply qA|apply qN|apply q1_|refine qS ?_ GE246.out|refine qS ?_ GE258.out)|exact HB.out))⟩;clear HO_259000 HO_3 BK246 BK258 HB hq_;have HO_259000:=n0_;have HO_3:=n1_;have BK246:=n2_;have BK258:=n3_;have HB:=n4_;clear n0_ n1_ n2_ n3_ n4_)))|((with_reducible refine gate_dst (N:=9) rfl ?_);refine box_event ?hg (N:=9) ?hd (cs:=#[.int .i64 0,.int .i64 0,.bool false]) (t:=62) ?hr ?_;(case hd=>rfl);(case hg=>rfl);(case hr=>first|(go_simp;done)|(go_simp;rfl));intro gb261 hg w33 hbox hb;have n0_:=Zz.mk (Kd.V_below (Kd.V_elderB (by (with_reducible repeat (first|apply Kd.V_alloc|apply Kd.V_drewN|apply Kd.V_drew));exact HO_3.out) gb261 (Nat.le_of_eq hg.symm)) hb);have n1_:=Zz.mk (Kd.R_below (Kd.R_elderB (by (with_reducible repeat first|apply Kd.R_alloc|apply Kd.R_drewN|apply Kd.R_drew);exact HO_259000.out) gb261 (Nat.le_of_eq hg.symm)) hb);have n2_:=Zz.mk (bB (g:=gb246) (o:=.cells #[.slice none 0 0] 24 (0,0)) (by (with_reducible repeat first|apply bN|apply bD|apply bA);exact BK246.out) hb);have n3_:=Zz.mk (bB (g:=gb258) (o:=.cells #[u259000] 24 (0,0)) (by (with_reducible repeat first|apply bN|apply bD|apply bA);exact BK258.out) hb);have n4_:=Zz.mk (qP (by repeat (first|(with_reducible first|exact HB.out|apply qA|apply qN|apply q1_|refine qS ?_ GE246.out|refine qS ?_ GE258.out)|exact HB.out)) hb);have n5_:=Zz.mk (hbox);have n6_:=Zz.mk ((by rw [hg];exact (qZ (by repeat (first|(with_reducible first|exact HB.out|apply qA|apply qN|apply q1_|refine qS ?_ GE246.out|refine qS ?_ GE258.out)|exact HB.out))):w.heap.size≤gb261));have n7_:=Zz.mk ((by rw [hg];exact (qZ (by repeat (first|(with_reducible first|exact HB.out|apply qA|apply qN|apply q1_|refine qS ?_ GE246.out|refine qS ?_ GE258.out)|exact HB.out))):w.heap.size≤gb261));have n8_:=Zz.mk ((by rw [hg];exact Nat.ne_of_lt (blk_lt (g:=gb246) (o:=.cells #[.slice none 0 0] 24 (0,0)) (by (with_reducible repeat first|apply bN|apply bD|apply bA);exact BK246.out)):gb246 ≠ gb261));have n9_:=Zz.mk ((by rw [hg];exact Nat.ne_of_gt (blk_lt (g:=gb246) (o:=.cells #[.slice none 0 0] 24 (0,0)) (by (with_reducible repeat first|apply bN|apply bD|apply bA);exact BK246.out)):gb261 ≠ gb246));have n10_:=Zz.mk ((by rw [hg];exact Nat.ne_of_lt (blk_lt (g:=gb258) (o:=.cells #[u259000] 24 (0,0)) (by (with_reducible repeat first|apply bN|apply bD|apply bA);exact BK258.out)):gb258 ≠ gb261));have n11_:=Zz.mk ((by rw [hg];exact Nat.ne_of_gt (blk_lt (g:=gb258) (o:=.cells #[u259000] 24 (0,0)) (by (with_reducible repeat first|apply bN|apply bD|apply bA);exact BK258.out)):gb261 ≠ gb258));clear HO_3;clear HO_259000;clear BK246;clear BK258;clear HB;have HO_3:=n0_;have HO_259000:=n1_;have BK246:=n2_;have BK258:=n3_;have HB:=n4_;have BK261:=n5_;have GW261:=n6_;have GE261:=n7_;have NB246_261:=n8_;have NB261_246:=n9_;have NB258_261:=n10_;have NB261_258:=n11_;clear n0_ n1_ n2_ n3_ n4_ n5_ n6_ n7_ n8_ n9_ n10_ n11_;clear hb hbox hg;have hnb34:=NB261_246.out;have hnc34:=NB246_261.out;have hnb35:=NB261_258.out;have hnc35:=NB258_261.out;have hcz36_0:w33.cell? ⟨gb261,0,none⟩=some (.int .i64 0):=(bC BK261.out 0).trans rfl;have hcz36_1:w33.cell? ⟨gb261,1,none⟩=some (.int .i64 0):=(bC BK261.out 1).trans rfl;have hcz36_2:w33.cell? ⟨gb261,2,none⟩=some (.bool false):=(bC BK261.out 2).trans rfl;have hfz36_0:=bF BK261.out 0;have hfz36_1:=bF BK261.out 1;have hfz36_2:=bF BK261.out 2;have p27:0≤((ji24):Int):=of_decide_eq_true (by first|(with_reducible assumption)|assumption);have q27:(ji24)<((rdOf ByteArray.empty x3_1 x7_2).size:Int):=of_decide_eq_true (by first|(with_reducible assumption)|assumption);have hx27:=bt_at (rdOf ByteArray.empty x3_1 x7_2) (ji24);replace p27:=eq_true p27;replace q27:=eq_true q27)|((with_reducible refine gate_callee (f:=59) rfl ?_);refine goesL_ (some 66) rfl rfl Try.func59 (by kernel_rfl) rfl #[.slice (some ad259) x3_1.length co32,.string ((rdOf ByteArray.empty x3_1 x7_2).extract 0 ((ji24):Int).toNat)] rfl (by (try simp only [List.map_toArray,List.map_cons,List.map_nil]);first|done|(simp only [hji24];rfl)|rfl|(simp only [List.length_drop,List.length_take];rfl)) ?_;(with_reducible refine (spec_l2Place.calls k2 _ _ x3_1 ((rdOf ByteArray.empty x3_1 x7_2).extract 0 ((ji24):Int).toNat) t262 _ ?side1 ?side2 A30.out).mono ?_);(case side1=>refine (Kd.V_reads' (e:=9) (base:=w.heap.size) (ok:=fun k_=>((some k_ ≠ (u259000:Value).ownBlock∧(k_ ≠ gb246∧k_ ≠ gb258))∧k_ ≠ gb261)) (n:=x3_1.length) (c:=co32) ?_).2.2;exact (by (with_reducible repeat (first|apply Kd.V_alloc|apply Kd.V_drewN|apply Kd.V_drew));exact (Kd.V_mono (V_same_ (Kd.V_far (p:=⟨gb261,0,none⟩) (Kd.V_far (p:=⟨gb261,2,none⟩) (Kd.V_far (p:=⟨gb261,1,none⟩) (Kd.V_far (p:=⟨gb261,0,none⟩) (Kd.V_mono HO_3.out (fun k_ hk=>(⟨hk,hk.2⟩:_∧k_ ≠ gb261))) (fun _ hk=>hk.2) (.int .i64 (-1))) (fun _ hk=>hk.2) (.int .i64 (-1))) (fun _ hk=>hk.2) (.bool t260)) (fun _ hk=>hk.2) (.int .i64 (((bt (rdOf ByteArray.empty x3_1 x7_2) (ji24)) - 97) % 256))) rfl) (fun _ h_=>h_.1))));(case side2=>exact (Kd.V_reads' HO_3.out).2.1);rintro e w' ⟨rfl,⟨nd,rfl⟩⟩;refine ⟨_,rfl,?_⟩;have hnb37:=NB258_246.out;have hnc37:=NB246_258.out;have hcz38_0:w33.cell? ⟨gb258,0,none⟩=some (u259000):=(bC BK258.out 0).trans rfl;have hfz38_0:=bF BK258.out 0)|((with_reducible refine gate_builtin (b:=.append) (xs:=#[.tmp 69,.tmp 71]) rfl ?_);at_builtin;refine Kd.R_append k62 (w0:=w) w.heap.size rfl (.tmp 69) (.tmp 71) 22 62 (.agg #[(.int .i64 0),(.int .i64 0),(.bool false)]) 24 rfl Try.underlying22 info62 rfl (by decide) (by omega) u259000 x259000_2 (⟨((bt (rdOf ByteArray.empty x3_1 x7_2) (ji24)) - 97) % 256,t262,t260⟩:S62) [.int .i64 (((bt (rdOf ByteArray.empty x3_1 x7_2) (ji24)) - 97) % 256),.int .i64 t262,.bool t260] (fun k_=>k_ ≠ gb261) (fun _=>False) rfl (by first|(go_simp;done)|(go_simp;rfl)) ?aP (fun _ hk=>hk.elim) ?aF ?aO ?aB ?aS ?aL ?_;(case aP=>exact k62_mkM _ _ _ (⟨((bt (rdOf ByteArray.empty x3_1 x7_2) (ji24)) - 97) % 256,t262,t260⟩:S62));(case aB=>exact (by repeat (first|(with_reducible first|exact HB.out|apply qA|apply qN|apply q1_|refine qS ?_ GE246.out|refine qS ?_ GE258.out|refine qS ?_ GE261.out)|exact HB.out)));(case aF=>exact (fun k_ hk=>Kd.freshB (g:=gb261) (o:=.cells #[.int .i64 (((bt (rdOf ByteArray.empty x3_1 x7_2) (ji24)) - 97) % 256),.int .i64 t262,.bool t260] 62 (0,0)) (by (with_reducible repeat first|apply bN|apply bD|apply bA);refine blk_put (cs:=#[.int .i64 (((bt (rdOf ByteArray.empty x3_1 x7_2) (ji24)) - 97) % 256),.int .i64 (-1),.bool t260]) ?_ 1 _ rfl;(with_reducible repeat first|apply bN|apply bD|apply bA);refine blk_put (cs:=#[.int .i64 (-1),.int .i64 (-1),.bool t260]) ?_ 0 _ rfl;(with_reducible repeat first|apply bN|apply bD|apply bA);refine blk_put (cs:=#[.int .i64 (-1),.int .i64 (-1),.bool false]) ?_ 2 _ rfl;(with_reducible repeat first|apply bN|apply bD|apply bA);refine blk_put (cs:=#[.int .i64 (-1),.int .i64 0,.bool false]) ?_ 1 _ rfl;(with_reducible repeat first|apply bN|apply bD|apply bA);refine blk_put (cs:=#[.int .i64 0,.int .i64 0,.bool false]) ?_ 0 _ rfl;(with_reducible repeat first|apply bN|apply bD|apply bA);exact BK261.out) k_ hk));(case aO=>exact (by (with_reducible repeat first|apply Kd.R_alloc|apply Kd.R_drewN|apply Kd.R_drew);exact Kd.R_mono (R_same_ (Kd.R_far (p:=⟨gb261,1,none⟩) (Kd.R_far (p:=⟨gb261,0,none⟩) (Kd.R_far (p:=⟨gb261,2,none⟩) (Kd.R_far (p:=⟨gb261,1,none⟩) (Kd.R_far (p:=⟨gb261,0,none⟩) (Kd.R_mono HO_259000.out (fun k_ hk=>(⟨hk,hk.2⟩:_∧k_ ≠ gb261))) (fun _ hk=>hk.2) (.int .i64 (-1))) (fun _ hk=>hk.2) (.int .i64 (-1))) (fun _ hk=>hk.2) (.bool t260)) (fun _ hk=>hk.2) (.int .i64 (((bt (rdOf ByteArray.empty x3_1 x7_2) (ji24)) - 97) % 256))) (fun _ hk=>hk.2) (.int .i64 t262)) rfl) (fun _ hk=>hk.1.2)));(case aS=>exact (qZ (by repeat (first|(with_reducible first|exact HB.out|apply qA|apply qN|apply q1_|refine qS ?_ GE246.out|refine qS ?_ GE258.out|refine qS ?_ GE261.out)|exact HB.out))));(case aL=>have:=LMc31.out;omega);intro v264 w39 ho hb hg hat;rw [← Ny263.out] at ho;have n0_:=Zz.mk (Kd.V_afterv (ok:=(fun k_=>k_ ≠ gb246∧k_ ≠ gb258∧k_ ≠ gb261)) (by (with_reducible repeat (first|apply Kd.V_alloc|apply Kd.V_drewN|apply Kd.V_drew));exact Kd.V_mono (V_same_ (Kd.V_far (p:=⟨gb261,1,none⟩) (Kd.V_far (p:=⟨gb261,0,none⟩) (Kd.V_far (p:=⟨gb261,2,none⟩) (Kd.V_far (p:=⟨gb261,1,none⟩) (Kd.V_far (p:=⟨gb261,0,none⟩) (Kd.V_mono HO_3.out (fun k_ hk=>(⟨hk,hk.2⟩:_∧k_ ≠ gb261))) (fun _ hk=>hk.2) (.int .i64 (-1))) (fun _ hk=>hk.2) (.int .i64 (-1))) (fun _ hk=>hk.2) (.bool t260)) (fun _ hk=>hk.2) (.int .i64 (((bt (rdOf ByteArray.empty x3_1 x7_2) (ji24)) - 97) % 256))) (fun _ hk=>hk.2) (.int .i64 t262)) rfl) (fun _ hk=>⟨⟨hk.1.1.2.1,⟨hk.1.1.2.2,hk.1.2⟩⟩,hk.1.1.1⟩)) hg hat);have n1_:=Zz.mk (blk_grown (g:=gb246) (o:=.cells #[.slice none 0 0] 24 (0,0)) (by (with_reducible repeat first|apply bN|apply bD|apply bA);refine blk_far ?_ NB246_261.out _;(with_reducible repeat first|apply bN|apply bD|apply bA);refine blk_far ?_ NB246_261.out _;(with_reducible repeat first|apply bN|apply bD|apply bA);refine blk_far ?_ NB246_261.out _;(with_reducible repeat first|apply bN|apply bD|apply bA);refine blk_far ?_ NB246_261.out _;(with_reducible repeat first|apply bN|apply bD|apply bA);refine blk_far ?_ NB246_261.out _;(with_reducible repeat first|apply bN|apply bD|apply bA);exact BK246.out) hg (Kd.R_ne HO_259000.out BK246.out (by decide)));have n2_:=Zz.mk (blk_grown (g:=gb258) (o:=.cells #[u259000] 24 (0,0)) (by (with_reducible repeat first|apply bN|apply bD|apply bA);refine blk_far ?_ NB258_261.out _;(with_reducible repeat first|apply bN|apply bD|apply bA);refine blk_far ?_ NB258_261.out _;(with_reducible repeat first|apply bN|apply bD|apply bA);refine blk_far ?_ NB258_261.out _;(with_reducible repeat first|apply bN|apply bD|apply bA);refine blk_far ?_ NB258_261.out _;(with_reducible repeat first|apply bN|apply bD|apply bA);refine blk_far ?_ NB258_261.out _;(with_reducible repeat first|apply bN|apply bD|apply bA);exact BK258.out) hg (Kd.R_ne HO_259000.out BK258.out (by decide)));have n3_:=Zz.mk (blk_grown (g:=gb261) (o:=.cells #[.int .i64 (((bt (rdOf ByteArray.empty x3_1 x7_2) (ji24)) - 97) % 256),.int .i64 t262,.bool t260] 62 (0,0)) (by (with_reducible repeat first|apply bN|apply bD|apply bA);refine blk_put (cs:=#[.int .i64 (((bt (rdOf ByteArray.empty x3_1 x7_2) (ji24)) - 97) % 256),.int .i64 (-1),.bool t260]) ?_ 1 _ rfl;(with_reducible repeat first|apply bN|apply bD|apply bA);refine blk_put (cs:=#[.int .i64 (-1),.int .i64 (-1),.bool t260]) ?_ 0 _ rfl;(with_reducible repeat first|apply bN|apply bD|apply bA);refine blk_put (cs:=#[.int .i64 (-1),.int .i64 (-1),.bool false]) ?_ 2 _ rfl;(with_reducible repeat first|apply bN|apply bD|apply bA);refine blk_put (cs:=#[.int .i64 (-1),.int .i64 0,.bool false]) ?_ 1 _ rfl;(with_reducible repeat first|apply bN|apply bD|apply bA);refine blk_put (cs:=#[.int .i64 0,.int .i64 0,.bool false]) ?_ 0 _ rfl;(with_reducible repeat first|apply bN|apply bD|apply bA);exact BK261.out) hg (Kd.R_away HO_259000.out (fun _ hk=>hk.2)));have n4_:=Zz.mk (hb);have n5_:=Zz.mk (ho);clear HO_3;clear BK246;clear BK258;clear BK261;clear HB;clear HO_259000;have HO_3:=n0_;have BK246:=n1_;have BK258:=n2_;have BK261:=n3_;have HB:=n4_;have HO265:=n5_;clear n0_ n1_ n2_ n3_ n4_ n5_;clear ho hb hg hat;obtain ⟨Ao40,co40,eo40⟩:=Kd.R_slice HO265.out;subst eo40;have hcz41_0:w39.cell? ⟨gb258,0,none⟩=some (u259000):=(bC BK258.out 0).trans rfl;have hfz41_0:=bF BK258.out 0))
             go_roundg k2
             case measure=>have:=HK1.out;have:=HK2.out;omega
             case rel=>exact ⟨(wrap64 (x7_2+1)),(y263),(.slice Ao40 y263.length co40),(by first|rfl|(simp;done)|(simp [*];done)),H',⟨by have:=HK1.out;have:=HK2.out;omega⟩,⟨by (with_reducible repeat (first|apply Kd.V_alloc|apply Kd.V_drewN|apply Kd.V_drew));exact Kd.V_mono (V_same_ (Kd.V_far (p:=⟨gb258,0,none⟩) (Kd.V_mono HO_3.out (fun k_ hk=>(⟨hk,hk.1.2.1⟩:_∧k_ ≠ gb258))) (fun _ hk=>hk.2) (.slice Ao40 y263.length co40)) rfl) (fun _ hk=>⟨hk.1.2,⟨hk.1.1.1,hk.1.1.2.1⟩⟩)⟩,⟨by (with_reducible repeat first|apply Kd.R_alloc|apply Kd.R_drewN|apply Kd.R_drew);exact Kd.R_mono (R_same_ (Kd.R_far (p:=⟨gb258,0,none⟩) (Kd.R_types HO265.out BK258.out (by decide)) (fun _ hk=>hk.2) (.slice Ao40 y263.length co40)) rfl) (fun _ hk=>trivial)⟩,⟨by (with_reducible repeat first|apply bN|apply bD|apply bA);refine blk_far ?_ NB246_258.out _;(with_reducible repeat first|apply bN|apply bD|apply bA);exact BK246.out⟩,⟨by (with_reducible repeat first|apply bN|apply bD|apply bA);refine blk_put (cs:=#[u259000]) ?_ 0 _ rfl;(with_reducible repeat first|apply bN|apply bD|apply bA);exact BK258.out⟩,⟨by repeat (first|(with_reducible first|exact HB.out|apply qA|apply qN|apply q1_|refine qS ?_ GE246.out|refine qS ?_ GE258.out|refine qS ?_ GE261.out)|exact HB.out)⟩⟩
            ·rw [if_neg c31] at H
             exact absurd H (by simp)
           ·rw [if_neg c29] at H
            exact absurd H (by simp)
          ·rw [if_neg c26] at H
           exact absurd H (by simp)
         ·rw [if_neg c25] at H
          exact absurd H (by simp)
        ·rw [if_neg c23] at H
         have c23b0:decide (0<x7_2)=false:=decide_eq_false c23
         clear c23
         by_cases c42:x259000_2.length<5864062014805
         ·rw [if_pos c42] at H
          have LMc42:=Zz.mk c42
          clear c42
          obtain ⟨y266,hy266⟩:∃ y_:List (S62),y_=(x259000_2 ++ [(⟨(-1),(-1),t260⟩:S62)]):=⟨_,rfl⟩
          replace H:(spec_l2Of.l2 k2 l0 x3_1 (wrap64 (x7_2+1)) y266)=some r:=by first|(rw [hy266];with_reducible exact H)|(have H2_:=(Option.bind_some _ _).symm.trans H;rw [hy266];with_reducible exact H2_)|(have H2_:=(Option.bind_some _ _).symm.trans H;with_reducible exact H2_)|with_reducible exact H|(rw [hy266];exact H)|exact H
          have Ny266:=Zz.mk hy266
          clear hy266
          have H':=Zz.mk H
          clear H
          obtain ⟨Ao43,co43,eo43⟩:=Kd.V_slice HO_3.out
          subst eo43
          have p259:0≤(x7_2:Int):=of_decide_eq_true (by first|(with_reducible assumption)|assumption)
          have q259:x7_2<(x3_1.length:Int):=of_decide_eq_true (by first|(with_reducible assumption)|assumption)
          obtain ⟨ad259,e259,hx259_0⟩:=Kd.at_string (Kd.V_reads' HO_3.out).2.2 x7_2 p259 q259
          cases e259
          replace p259:=eq_true p259
          replace q259:=eq_true q259
          go_wp2_with (first|((with_reducible refine gate_callee (f:=58) rfl ?_);refine goesL_ (some 48) rfl rfl Try.func58 (by kernel_rfl) rfl #[.slice A0 l0.length c0,.string (rdOf ByteArray.empty x3_1 x7_2)] rfl (by (try simp only [List.map_toArray,List.map_cons,List.map_nil]);first|done|rfl|(simp only [List.length_drop,List.length_take];rfl)) ?_;(with_reducible refine (spec_l2Has.calls k2 _ _ l0 (rdOf ByteArray.empty x3_1 x7_2) t260 _ ?side1 ?side2 A22.out).mono ?_);(case side1=>repeat (first|exact (Kd.C_below HR0.out HB.out)|(with_reducible refine Kd.C_alloc ?_ _)|(with_reducible refine Kd.C_drewN ?_ _)|(with_reducible refine Kd.C_drew ?_)));(case side2=>exact HC0.out);rintro e w' ⟨rfl,⟨nd,rfl⟩⟩;refine ⟨_,rfl,?_⟩;(try (rw [drewN_self wr];generalize hq_:World.drewN wr _=wr;have n0_:Zz (Kd.R k62 62 wr w.heap.size (fun _=>True) u259000 x259000_2):=⟨by rw [← hq_];exact (by (with_reducible repeat first|apply Kd.R_alloc|apply Kd.R_drewN|apply Kd.R_drew);exact HO_259000.out)⟩;have n1_:Zz (Kd.V Kd.string 9 wr w.heap.size (fun k_=>some k_ ≠ (u259000:Value).ownBlock∧k_ ≠ gb246∧k_ ≠ gb258) (.slice (some ad259) x3_1.length co43) x3_1):=⟨by rw [← hq_];exact (by (with_reducible repeat (first|apply Kd.V_alloc|apply Kd.V_drewN|apply Kd.V_drew));exact HO_3.out)⟩;have n2_:Zz (wr.heap[gb246]?=some (.cells #[.slice none 0 0] 24 (0,0))):=⟨by rw [← hq_];exact (by (with_reducible repeat first|apply bN|apply bD|apply bA);exact BK246.out)⟩;have n3_:Zz (wr.heap[gb258]?=some (.cells #[u259000] 24 (0,0))):=⟨by rw [← hq_];exact (by (with_reducible repeat first|apply bN|apply bD|apply bA);exact BK258.out)⟩;have n4_:Zz (Below w.heap.size w wr):=⟨by rw [← hq_];exact (by repeat (first|(with_reducible first|exact HB.out|apply qA|apply qN|apply q1_|refine qS ?_ GE246.out|refine qS ?_ GE258.out)|exact HB.out))⟩;clear HO_259000 HO_3 BK246 BK258 HB hq_;have HO_259000:=n0_;have HO_3:=n1_;have BK246:=n2_;have BK258:=n3_;have HB:=n4_;clear n0_ n1_ n2_ n3_ n4_)))|((with_reducible refine gate_dst (N:=9) rfl ?_);refine box_event ?hg (N:=9) ?hd (cs:=#[.int .i64 0,.int .i64 0,.bool false]) (t:=62) ?hr ?_;(case hd=>rfl);(case hg=>rfl);(case hr=>first|(go_simp;done)|(go_simp;rfl));intro gb261 hg w44 hbox hb;have n0_:=Zz.mk (Kd.V_below (Kd.V_elderB (by (with_reducible repeat (first|apply Kd.V_alloc|apply Kd.V_drewN|apply Kd.V_drew));exact HO_3.out) gb261 (Nat.le_of_eq hg.symm)) hb);have n1_:=Zz.mk (Kd.R_below (Kd.R_elderB (by (with_reducible repeat first|apply Kd.R_alloc|apply Kd.R_drewN|apply Kd.R_drew);exact HO_259000.out) gb261 (Nat.le_of_eq hg.symm)) hb);have n2_:=Zz.mk (bB (g:=gb246) (o:=.cells #[.slice none 0 0] 24 (0,0)) (by (with_reducible repeat first|apply bN|apply bD|apply bA);exact BK246.out) hb);have n3_:=Zz.mk (bB (g:=gb258) (o:=.cells #[u259000] 24 (0,0)) (by (with_reducible repeat first|apply bN|apply bD|apply bA);exact BK258.out) hb);have n4_:=Zz.mk (qP (by repeat (first|(with_reducible first|exact HB.out|apply qA|apply qN|apply q1_|refine qS ?_ GE246.out|refine qS ?_ GE258.out)|exact HB.out)) hb);have n5_:=Zz.mk (hbox);have n6_:=Zz.mk ((by rw [hg];exact (qZ (by repeat (first|(with_reducible first|exact HB.out|apply qA|apply qN|apply q1_|refine qS ?_ GE246.out|refine qS ?_ GE258.out)|exact HB.out))):w.heap.size≤gb261));have n7_:=Zz.mk ((by rw [hg];exact (qZ (by repeat (first|(with_reducible first|exact HB.out|apply qA|apply qN|apply q1_|refine qS ?_ GE246.out|refine qS ?_ GE258.out)|exact HB.out))):w.heap.size≤gb261));have n8_:=Zz.mk ((by rw [hg];exact Nat.ne_of_lt (blk_lt (g:=gb246) (o:=.cells #[.slice none 0 0] 24 (0,0)) (by (with_reducible repeat first|apply bN|apply bD|apply bA);exact BK246.out)):gb246 ≠ gb261));have n9_:=Zz.mk ((by rw [hg];exact Nat.ne_of_gt (blk_lt (g:=gb246) (o:=.cells #[.slice none 0 0] 24 (0,0)) (by (with_reducible repeat first|apply bN|apply bD|apply bA);exact BK246.out)):gb261 ≠ gb246));have n10_:=Zz.mk ((by rw [hg];exact Nat.ne_of_lt (blk_lt (g:=gb258) (o:=.cells #[u259000] 24 (0,0)) (by (with_reducible repeat first|apply bN|apply bD|apply bA);exact BK258.out)):gb258 ≠ gb261));have n11_:=Zz.mk ((by rw [hg];exact Nat.ne_of_gt (blk_lt (g:=gb258) (o:=.cells #[u259000] 24 (0,0)) (by (with_reducible repeat first|apply bN|apply bD|apply bA);exact BK258.out)):gb261 ≠ gb258));clear HO_3;clear HO_259000;clear BK246;clear BK258;clear HB;have HO_3:=n0_;have HO_259000:=n1_;have BK246:=n2_;have BK258:=n3_;have HB:=n4_;have BK261:=n5_;have GW261:=n6_;have GE261:=n7_;have NB246_261:=n8_;have NB261_246:=n9_;have NB258_261:=n10_;have NB261_258:=n11_;clear n0_ n1_ n2_ n3_ n4_ n5_ n6_ n7_ n8_ n9_ n10_ n11_;clear hb hbox hg;have hnb45:=NB261_246.out;have hnc45:=NB246_261.out;have hnb46:=NB261_258.out;have hnc46:=NB258_261.out;have hcz47_0:w44.cell? ⟨gb261,0,none⟩=some (.int .i64 0):=(bC BK261.out 0).trans rfl;have hcz47_1:w44.cell? ⟨gb261,1,none⟩=some (.int .i64 0):=(bC BK261.out 1).trans rfl;have hcz47_2:w44.cell? ⟨gb261,2,none⟩=some (.bool false):=(bC BK261.out 2).trans rfl;have hfz47_0:=bF BK261.out 0;have hfz47_1:=bF BK261.out 1;have hfz47_2:=bF BK261.out 2;have hnb48:=NB258_246.out;have hnc48:=NB246_258.out;have hcz49_0:w44.cell? ⟨gb258,0,none⟩=some (u259000):=(bC BK258.out 0).trans rfl;have hfz49_0:=bF BK258.out 0)|((with_reducible refine gate_builtin (b:=.append) (xs:=#[.tmp 69,.tmp 71]) rfl ?_);at_builtin;refine Kd.R_append k62 (w0:=w) w.heap.size rfl (.tmp 69) (.tmp 71) 22 62 (.agg #[(.int .i64 0),(.int .i64 0),(.bool false)]) 24 rfl Try.underlying22 info62 rfl (by decide) (by omega) u259000 x259000_2 (⟨(-1),(-1),t260⟩:S62) [.int .i64 (-1),.int .i64 (-1),.bool t260] (fun k_=>k_ ≠ gb261) (fun _=>False) rfl (by first|(go_simp;done)|(go_simp;rfl)) ?aP (fun _ hk=>hk.elim) ?aF ?aO ?aB ?aS ?aL ?_;(case aP=>exact k62_mkM _ _ _ (⟨(-1),(-1),t260⟩:S62));(case aB=>exact (by repeat (first|(with_reducible first|exact HB.out|apply qA|apply qN|apply q1_|refine qS ?_ GE246.out|refine qS ?_ GE258.out|refine qS ?_ GE261.out)|exact HB.out)));(case aF=>exact (fun k_ hk=>Kd.freshB (g:=gb261) (o:=.cells #[.int .i64 (-1),.int .i64 (-1),.bool t260] 62 (0,0)) (by (with_reducible repeat first|apply bN|apply bD|apply bA);refine blk_put (cs:=#[.int .i64 (-1),.int .i64 (-1),.bool false]) ?_ 2 _ rfl;(with_reducible repeat first|apply bN|apply bD|apply bA);refine blk_put (cs:=#[.int .i64 (-1),.int .i64 0,.bool false]) ?_ 1 _ rfl;(with_reducible repeat first|apply bN|apply bD|apply bA);refine blk_put (cs:=#[.int .i64 0,.int .i64 0,.bool false]) ?_ 0 _ rfl;(with_reducible repeat first|apply bN|apply bD|apply bA);exact BK261.out) k_ hk));(case aO=>exact (by (with_reducible repeat first|apply Kd.R_alloc|apply Kd.R_drewN|apply Kd.R_drew);exact Kd.R_mono (R_same_ (Kd.R_far (p:=⟨gb261,2,none⟩) (Kd.R_far (p:=⟨gb261,1,none⟩) (Kd.R_far (p:=⟨gb261,0,none⟩) (Kd.R_mono HO_259000.out (fun k_ hk=>(⟨hk,hk.2⟩:_∧k_ ≠ gb261))) (fun _ hk=>hk.2) (.int .i64 (-1))) (fun _ hk=>hk.2) (.int .i64 (-1))) (fun _ hk=>hk.2) (.bool t260)) rfl) (fun _ hk=>hk.1.2)));(case aS=>exact (qZ (by repeat (first|(with_reducible first|exact HB.out|apply qA|apply qN|apply q1_|refine qS ?_ GE246.out|refine qS ?_ GE258.out|refine qS ?_ GE261.out)|exact HB.out))));(case aL=>have:=LMc42.out;omega);intro v267 w50 ho hb hg hat;rw [← Ny266.out] at ho;have n0_:=Zz.mk (Kd.V_afterv (ok:=(fun k_=>k_ ≠ gb246∧k_ ≠ gb258∧k_ ≠ gb261)) (by (with_reducible repeat (first|apply Kd.V_alloc|apply Kd.V_drewN|apply Kd.V_drew));exact Kd.V_mono (V_same_ (Kd.V_far (p:=⟨gb261,2,none⟩) (Kd.V_far (p:=⟨gb261,1,none⟩) (Kd.V_far (p:=⟨gb261,0,none⟩) (Kd.V_mono HO_3.out (fun k_ hk=>(⟨hk,hk.2⟩:_∧k_ ≠ gb261))) (fun _ hk=>hk.2) (.int .i64 (-1))) (fun _ hk=>hk.2) (.int .i64 (-1))) (fun _ hk=>hk.2) (.bool t260)) rfl) (fun _ hk=>⟨⟨hk.1.1.2.1,⟨hk.1.1.2.2,hk.1.2⟩⟩,hk.1.1.1⟩)) hg hat);have n1_:=Zz.mk (blk_grown (g:=gb246) (o:=.cells #[.slice none 0 0] 24 (0,0)) (by (with_reducible repeat first|apply bN|apply bD|apply bA);refine blk_far ?_ NB246_261.out _;(with_reducible repeat first|apply bN|apply bD|apply bA);refine blk_far ?_ NB246_261.out _;(with_reducible repeat first|apply bN|apply bD|apply bA);refine blk_far ?_ NB246_261.out _;(with_reducible repeat first|apply bN|apply bD|apply bA);exact BK246.out) hg (Kd.R_ne HO_259000.out BK246.out (by decide)));have n2_:=Zz.mk (blk_grown (g:=gb258) (o:=.cells #[u259000] 24 (0,0)) (by (with_reducible repeat first|apply bN|apply bD|apply bA);refine blk_far ?_ NB258_261.out _;(with_reducible repeat first|apply bN|apply bD|apply bA);refine blk_far ?_ NB258_261.out _;(with_reducible repeat first|apply bN|apply bD|apply bA);refine blk_far ?_ NB258_261.out _;(with_reducible repeat first|apply bN|apply bD|apply bA);exact BK258.out) hg (Kd.R_ne HO_259000.out BK258.out (by decide)));have n3_:=Zz.mk (blk_grown (g:=gb261) (o:=.cells #[.int .i64 (-1),.int .i64 (-1),.bool t260] 62 (0,0)) (by (with_reducible repeat first|apply bN|apply bD|apply bA);refine blk_put (cs:=#[.int .i64 (-1),.int .i64 (-1),.bool false]) ?_ 2 _ rfl;(with_reducible repeat first|apply bN|apply bD|apply bA);refine blk_put (cs:=#[.int .i64 (-1),.int .i64 0,.bool false]) ?_ 1 _ rfl;(with_reducible repeat first|apply bN|apply bD|apply bA);refine blk_put (cs:=#[.int .i64 0,.int .i64 0,.bool false]) ?_ 0 _ rfl;(with_reducible repeat first|apply bN|apply bD|apply bA);exact BK261.out) hg (Kd.R_away HO_259000.out (fun _ hk=>hk.2)));have n4_:=Zz.mk (hb);have n5_:=Zz.mk (ho);clear HO_3;clear BK246;clear BK258;clear BK261;clear HB;clear HO_259000;have HO_3:=n0_;have BK246:=n1_;have BK258:=n2_;have BK261:=n3_;have HB:=n4_;have HO268:=n5_;clear n0_ n1_ n2_ n3_ n4_ n5_;clear ho hb hg hat;obtain ⟨Ao51,co51,eo51⟩:=Kd.R_slice HO268.out;subst eo51;have hcz52_0:w50.cell? ⟨gb258,0,none⟩=some (u259000):=(bC BK258.out 0).trans rfl;have hfz52_0:=bF BK258.out 0))
          go_roundg k2
          case measure=>have:=HK1.out;have:=HK2.out;omega
          case rel=>exact ⟨(wrap64 (x7_2+1)),(y266),(.slice Ao51 y266.length co51),(by first|rfl|(simp;done)|(simp [*];done)),H',⟨by have:=HK1.out;have:=HK2.out;omega⟩,⟨by (with_reducible repeat (first|apply Kd.V_alloc|apply Kd.V_drewN|apply Kd.V_drew));exact Kd.V_mono (V_same_ (Kd.V_far (p:=⟨gb258,0,none⟩) (Kd.V_mono HO_3.out (fun k_ hk=>(⟨hk,hk.1.2.1⟩:_∧k_ ≠ gb258))) (fun _ hk=>hk.2) (.slice Ao51 y266.length co51)) rfl) (fun _ hk=>⟨hk.1.2,⟨hk.1.1.1,hk.1.1.2.1⟩⟩)⟩,⟨by (with_reducible repeat first|apply Kd.R_alloc|apply Kd.R_drewN|apply Kd.R_drew);exact Kd.R_mono (R_same_ (Kd.R_far (p:=⟨gb258,0,none⟩) (Kd.R_types HO268.out BK258.out (by decide)) (fun _ hk=>hk.2) (.slice Ao51 y266.length co51)) rfl) (fun _ hk=>trivial)⟩,⟨by (with_reducible repeat first|apply bN|apply bD|apply bA);refine blk_far ?_ NB246_258.out _;(with_reducible repeat first|apply bN|apply bD|apply bA);exact BK246.out⟩,⟨by (with_reducible repeat first|apply bN|apply bD|apply bA);refine blk_put (cs:=#[u259000]) ?_ 0 _ rfl;(with_reducible repeat first|apply bN|apply bD|apply bA);exact BK258.out⟩,⟨by repeat (first|(with_reducible first|exact HB.out|apply qA|apply qN|apply q1_|refine qS ?_ GE246.out|refine qS ?_ GE258.out|refine qS ?_ GE261.out)|exact HB.out)⟩⟩
         ·rw [if_neg c42] at H
          exact absurd H (by simp)
       ·rw [if_neg c21] at H
        exact absurd H (by simp)
      ·rw [if_neg c20] at H
       have c20b0:decide (x7_2<(x3_1.length:Int))=false:=decide_eq_false c20
       clear c20
       obtain rfl:=Option.some.inj H
       obtain ⟨Ao53,co53,eo53⟩:=Kd.V_slice HO_3.out
       subst eo53
       have hnb54:=NB258_246.out
       have hnc54:=NB246_258.out
       have hcz55_0:wr.cell? ⟨gb258,0,none⟩=some (u259000):=(bC BK258.out 0).trans rfl
       have hfz55_0:=bF BK258.out 0
       obtain ⟨Ao56,co56,eo56⟩:=Kd.R_slice HO_259000.out
       subst eo56
       have hcz57_0:wr.cell? ⟨gb246,0,none⟩=some (.slice none 0 0):=(bC BK246.out 0).trans rfl
       have hfz57_0:=bF BK246.out 0
       go_wp2
       refine bodyPost_ret (results_cell_row rfl _ _ gb246 24 #[.slice Ao56 x259000_2.length co56] (0,0) _ rfl (by (with_reducible repeat first|apply bN|apply bD|apply bA);refine blk_put (cs:=#[.slice none 0 0]) ?_ 0 _ rfl;(with_reducible repeat first|apply bN|apply bD|apply bA);exact BK246.out) Try.underlying24 rfl (by kernel_rfl)) rfl ?_
       exact ⟨_,by first|rfl|(simp [errW_none,errW_some] <;> rfl)|(simp [*,errW_none,errW_some] <;> rfl),by (with_reducible repeat first|apply Kd.R_alloc|apply Kd.R_drewN|apply Kd.R_drew);exact Kd.R_mono (R_same_ (Kd.R_far (p:=⟨gb246,0,none⟩) (Kd.R_types HO_259000.out BK246.out (by decide)) (fun _ hk=>hk.2) (.slice Ao56 x259000_2.length co56)) rfl) (fun _ hk=>trivial),by repeat (first|(with_reducible first|exact HB.out|apply qA|apply qN|apply q1_|refine qS ?_ GE246.out|refine qS ?_ GE258.out)|exact HB.out)⟩
end Go.Proofs.Ytghkbgmbbcaecaa.Q
namespace Go.Proofs.Ytghkbgmbbcaecaa.Q
open Go.RowKit Go.Proofs.YtghkbgmbbcaecaaW.PrintWords Go.Proofs.YtghkbgmbbcaecaaW.PrintLast Go.Proofs.YtghkbgmbbcaecaaW.PrintMore
attribute [local go_sem] run_field_23 run_field_24 run_field_31 run_field_32 run_field_35 run_field_36 isSome_setCell max2_int min2_int max_two min_two max_three min_three max_four min_four   -- for this text's walks alone
set_option linter.unusedVariables false
set_option linter.unusedSimpArgs false
def spec_l2Kids.l0:Nat→Int→List Int→Int→List (S62)→Option (List Int)
 | 0,_,_,_,_=>none
 | k+1,x1,x5,x6,x303000=>if x6<(x303000.length:Int) then (if 0≤x6 then (if ((rT x303000 x6).f1)=x1 then (if x5.length<17592186044416 then (spec_l2Kids.l0 k x1 (x5 ++ [x6]) (wrap64 (x6+1)) x303000) else (none)) else (spec_l2Kids.l0 k x1 x5 (wrap64 (x6+1)) x303000)) else (none)) else (some x5)
def spec_l2Kids.f (k:Nat) (l0_0:List (S62)) (a1:Int):Option (List Int):=spec_l2Kids.l0 k a1 (([]:List Int)) (wrap64 (a1+1)) l0_0
set_option maxHeartbeats 8000000 in
set_option maxRecDepth 100000 in
theorem spec_l2Kids.calls (k:Nat) (A0_0:Option Addr) (c0_0:Nat) (l0_0:List (S62)) (a1:Int) (r:List Int) (w:World) (hr0_0:Kd.C k62 w A0_0 l0_0.length l0_0) (hc0_0:l0_0.length≤c0_0) (h:spec_l2Kids.f k l0_0 a1=some r) :
  Calls Try.prog 60 #[.agg #[.slice A0_0 l0_0.length c0_0],.int .i64 a1] w fun e w'=>∃ v0_:Value,e=.returned (v0_)∧Kd.R (Kd.int .i64) 3 w' w.heap.size (fun _=>True) v0_ r∧Below w.heap.size w w':=by
 have hu24:=Try.underlying24
 have HR0_0:=Zz.mk hr0_0
 have HC0_0:=Zz.mk hc0_0
 clear hr0_0 hc0_0
 have HB:=Zz.mk (Below.refl w.heap.size w)
 have H:(spec_l2Kids.l0 k a1 (([]:List Int)) (wrap64 (a1+1)) l0_0)=some r:=h
 clear h
 obtain ⟨y303,hy303⟩:∃ y_:List Int,y_=(([]:List Int)):=⟨_,rfl⟩
 replace H:(spec_l2Kids.l0 k a1 y303 (wrap64 (a1+1)) l0_0)=some r:=by first|(rw [hy303];with_reducible exact H)|(have H2_:=(Option.bind_some _ _).symm.trans H;rw [hy303];with_reducible exact H2_)|(have H2_:=(Option.bind_some _ _).symm.trans H;with_reducible exact H2_)|with_reducible exact H|(rw [hy303];exact H)|exact H
 have Ny303:=Zz.mk hy303
 clear hy303
 have H':=Zz.mk H
 clear H
 go_enter Try.func60,Try.ntmps60
 go_wp2_with (first|((with_reducible refine gate_dst (N:=2) rfl ?_);refine box_event ?hg (N:=2) ?hd (cs:=#[.slice A0_0 l0_0.length c0_0]) (t:=24) ?hr ?_;(case hd=>rfl);(case hg=>rfl);(case hr=>first|(go_simp;done)|(go_simp;rfl));intro gb302 hg w3 hbox hb;have n0_:=Zz.mk (qP (by repeat (first|(with_reducible first|exact HB.out|apply qA|apply qN|apply q1_)|exact HB.out)) hb);have n1_:=Zz.mk (hbox);have n2_:=Zz.mk ((by rw [hg];exact (qZ (by repeat (first|(with_reducible first|exact HB.out|apply qA|apply qN|apply q1_)|exact HB.out))):w.heap.size≤gb302));have n3_:=Zz.mk ((by rw [hg];exact (qZ (by repeat (first|(with_reducible first|exact HB.out|apply qA|apply qN|apply q1_)|exact HB.out))):w.heap.size≤gb302));clear HB;have HB:=n0_;have BK302:=n1_;have GW302:=n2_;have GE302:=n3_;clear n0_ n1_ n2_ n3_;clear hb hbox hg)|((with_reducible refine gate_dst (N:=7) rfl ?_);refine Kd.R_lit (Kd.int .i64) _ 3 ?hg (N:=7) ?hd (xs:=([]:List Int)) (inner:=[]) (ok:=fun _=>True) (okp:=fun _=>True) ?hr ?hp (fun _ hk=>hk) trivial (Below.refl _ _) (Nat.le_refl _) (by simp) ?_;(case hd=>rfl);(case hg=>rfl);(case hr=>first|(go_simp;done)|(go_simp;rfl));(case hp=>exact (Reps.none _ _));intro v304 w4 ho5 hb hg_ hnew_;clear hg_ hnew_;(first|rw [← Ny303.out] at ho5|(simp only [Int.reduceToNat] at ho5;rw [← Ny303.out] at ho5));have n0_:=Zz.mk (Kd.R_lower ho5 (qZ (by repeat (first|(with_reducible first|exact HB.out|apply qA|apply qN|apply q1_|refine qS ?_ GE302.out)|exact HB.out))));have n1_:=Zz.mk (bB (g:=gb302) (o:=.cells #[.slice A0_0 l0_0.length c0_0] 24 (0,0)) (by (with_reducible repeat first|apply bN|apply bD|apply bA);exact BK302.out) hb);have n2_:=Zz.mk (qP (by repeat (first|(with_reducible first|exact HB.out|apply qA|apply qN|apply q1_|refine qS ?_ GE302.out)|exact HB.out)) hb);clear BK302;clear HB;have HO305:=n0_;have BK302:=n1_;have HB:=n2_;clear n0_ n1_ n2_;clear hb ho5))
 go_loopg [5,6] k (fun kq v5 v6 w'=>∃ (x5_1:List Int) (x6_1:Int),v6=.int .i64 x6_1∧Zz (spec_l2Kids.l0 kq a1 x5_1 x6_1 l0_0=some r)∧Zz (kq≤k)∧Zz (Kd.R (Kd.int .i64) 3 w' w.heap.size (fun _=>True) v5 x5_1)∧Zz (w'.heap[gb302]?=some (.cells #[(.slice A0_0 l0_0.length c0_0)] 24 (0,0)))∧Zz (Below w.heap.size w w'))
 case atStart=>exact ⟨(y303),(wrap64 (a1+1)),(by first|rfl|(simp;done)|(simp [*];done)),H',⟨Nat.le_refl _⟩,⟨by (with_reducible repeat first|apply Kd.R_alloc|apply Kd.R_drewN|apply Kd.R_drew);exact HO305.out⟩,⟨by (with_reducible repeat first|apply bN|apply bD|apply bA);exact BK302.out⟩,⟨by repeat (first|(with_reducible first|exact HB.out|apply qA|apply qN|apply q1_|refine qS ?_ GE302.out)|exact HB.out)⟩⟩
 case round =>
  clear H'
  try clear p2
  obtain ⟨x5_1,x6_1,rfl,HA,HK1,HO_5,BK302,HB⟩:=hrel
  cases gk with
  | zero=>exact absurd HA.out (by simp [spec_l2Kids.l0])
  | succ k1 =>
   have H:=HA.out
   clear HA
   simp only [spec_l2Kids.l0] at H
   by_cases c6:x6_1<(l0_0.length:Int)
   ·rw [if_pos c6] at H
    have c6b0:decide (x6_1<(l0_0.length:Int))=true:=decide_eq_true c6
    clear c6
    by_cases c7:0≤x6_1
    ·rw [if_pos c7] at H
     have c7b0:decide (0≤x6_1)=true:=decide_eq_true c7
     clear c7
     by_cases c8:((rT l0_0 x6_1).f1)=a1
     ·rw [if_pos c8] at H
      have c8b0:(((rT l0_0 x6_1).f1) == a1)=true:=beq_iff_eq.mpr c8
      have c8b1:(((rT l0_0 x6_1).f1) != a1)=false:=bne_eq_false_iff_eq.mpr c8
      clear c8
      by_cases c9:x5_1.length<17592186044416
      ·rw [if_pos c9] at H
       have LMc9:=Zz.mk c9
       clear c9
       obtain ⟨y307,hy307⟩:∃ y_:List Int,y_=(x5_1 ++ [x6_1]):=⟨_,rfl⟩
       replace H:(spec_l2Kids.l0 k1 a1 y307 (wrap64 (x6_1+1)) l0_0)=some r:=by first|(rw [hy307];with_reducible exact H)|(have H2_:=(Option.bind_some _ _).symm.trans H;rw [hy307];with_reducible exact H2_)|(have H2_:=(Option.bind_some _ _).symm.trans H;with_reducible exact H2_)|with_reducible exact H|(rw [hy307];exact H)|exact H
       have Ny307:=Zz.mk hy307
       clear hy307
       have H':=Zz.mk H
       clear H
       have hcz10_0:wr.cell? ⟨gb302,0,none⟩=some (.slice A0_0 l0_0.length c0_0):=(bC BK302.out 0).trans rfl
       have hfz10_0:=bF BK302.out 0
       have p306:0≤(x6_1:Int):=of_decide_eq_true (by first|(with_reducible assumption)|assumption)
       have q306:x6_1<(l0_0.length:Int):=of_decide_eq_true (by first|(with_reducible assumption)|assumption)
       obtain ⟨ad306,e306,hx306_0,hx306_1,hx306_2⟩:=at_T62 HR0_0.out x6_1 p306 q306
       cases e306
       replace hx306_0:=(HB.out.cell (World.block_lt_of_cell? w _ hx306_0)).trans hx306_0
       replace hx306_1:=(HB.out.cell (World.block_lt_of_cell? w _ hx306_1)).trans hx306_1
       replace hx306_2:=(HB.out.cell (World.block_lt_of_cell? w _ hx306_2)).trans hx306_2
       replace p306:=eq_true p306
       replace q306:=eq_true q306
       go_wp2_with (first|((with_reducible refine gate_builtin (b:=.append) (xs:=#[.tmp 25,.tmp 27]) rfl ?_);at_builtin;refine Kd.R_append (Kd.int .i64) (w0:=w) w.heap.size rfl (.tmp 25) (.tmp 27) 43 3 (.int .i64 0) 8 rfl Try.underlying43 info3 rfl (by decide) (by omega) u5 x5_1 x6_1 [.int .i64 x6_1] (fun _=>True) (fun _=>False) rfl rfl ?aP (fun _ hk=>hk.elim) ?aF ?aO ?aB ?aS ?aL ?_;(case aP=>exact rfl);(case aB=>exact (by repeat (first|(with_reducible first|exact HB.out|apply qA|apply qN|apply q1_|refine qS ?_ GE302.out)|exact HB.out)));(case aF=>exact (fun _ _=>trivial));(case aO=>exact (by (with_reducible repeat first|apply Kd.R_alloc|apply Kd.R_drewN|apply Kd.R_drew);exact HO_5.out));(case aS=>exact (qZ (by repeat (first|(with_reducible first|exact HB.out|apply qA|apply qN|apply q1_|refine qS ?_ GE302.out)|exact HB.out))));(case aL=>have:=LMc9.out;omega);intro v308 w11 ho hb hg hat;rw [← Ny307.out] at ho;have n0_:=Zz.mk (blk_grown (g:=gb302) (o:=.cells #[.slice (some ad306) l0_0.length c0_0] 24 (0,0)) (by (with_reducible repeat first|apply bN|apply bD|apply bA);exact BK302.out) hg (Kd.R_ne HO_5.out BK302.out (by decide)));have n1_:=Zz.mk (hb);have n2_:=Zz.mk (ho);clear BK302;clear HB;clear HO_5;have BK302:=n0_;have HB:=n1_;have HO309:=n2_;clear n0_ n1_ n2_;clear ho hb hg hat))
       go_roundg k1
       case measure=>have:=HK1.out;omega
       case rel=>exact ⟨(y307),(wrap64 (x6_1+1)),(by first|rfl|(simp;done)|(simp [*];done)),H',⟨by have:=HK1.out;omega⟩,⟨by (with_reducible repeat first|apply Kd.R_alloc|apply Kd.R_drewN|apply Kd.R_drew);exact HO309.out⟩,⟨by (with_reducible repeat first|apply bN|apply bD|apply bA);exact BK302.out⟩,⟨by repeat (first|(with_reducible first|exact HB.out|apply qA|apply qN|apply q1_|refine qS ?_ GE302.out)|exact HB.out)⟩⟩
      ·rw [if_neg c9] at H
       exact absurd H (by simp)
     ·rw [if_neg c8] at H
      have c8b0:(((rT l0_0 x6_1).f1) == a1)=false:=beq_eq_false_iff_ne.mpr c8
      have c8b1:(((rT l0_0 x6_1).f1) != a1)=true:=bne_iff_ne.mpr c8
      have H':=Zz.mk H
      clear H
      have hcz12_0:wr.cell? ⟨gb302,0,none⟩=some (.slice A0_0 l0_0.length c0_0):=(bC BK302.out 0).trans rfl
      have hfz12_0:=bF BK302.out 0
      have p306:0≤(x6_1:Int):=of_decide_eq_true (by first|(with_reducible assumption)|assumption)
      have q306:x6_1<(l0_0.length:Int):=of_decide_eq_true (by first|(with_reducible assumption)|assumption)
      obtain ⟨ad306,e306,hx306_0,hx306_1,hx306_2⟩:=at_T62 HR0_0.out x6_1 p306 q306
      cases e306
      replace hx306_0:=(HB.out.cell (World.block_lt_of_cell? w _ hx306_0)).trans hx306_0
      replace hx306_1:=(HB.out.cell (World.block_lt_of_cell? w _ hx306_1)).trans hx306_1
      replace hx306_2:=(HB.out.cell (World.block_lt_of_cell? w _ hx306_2)).trans hx306_2
      replace p306:=eq_true p306
      replace q306:=eq_true q306
      go_wp2
      go_roundg k1
      case measure=>have:=HK1.out;omega
      case rel=>exact ⟨(x5_1),(wrap64 (x6_1+1)),(by first|rfl|(simp;done)|(simp [*];done)),H',⟨by have:=HK1.out;omega⟩,⟨by (with_reducible repeat first|apply Kd.R_alloc|apply Kd.R_drewN|apply Kd.R_drew);exact HO_5.out⟩,⟨by (with_reducible repeat first|apply bN|apply bD|apply bA);exact BK302.out⟩,⟨by repeat (first|(with_reducible first|exact HB.out|apply qA|apply qN|apply q1_|refine qS ?_ GE302.out)|exact HB.out)⟩⟩
    ·rw [if_neg c7] at H
     exact absurd H (by simp)
   ·rw [if_neg c6] at H
    have c6b0:decide (x6_1<(l0_0.length:Int))=false:=decide_eq_false c6
    clear c6
    obtain rfl:=Option.some.inj H
    have hcz13_0:wr.cell? ⟨gb302,0,none⟩=some (.slice A0_0 l0_0.length c0_0):=(bC BK302.out 0).trans rfl
    have hfz13_0:=bF BK302.out 0
    go_wp2
    go_ret
    exact ⟨_,by first|rfl|(simp [errW_none,errW_some] <;> rfl)|(simp [*,errW_none,errW_some] <;> rfl),by (with_reducible repeat first|apply Kd.R_alloc|apply Kd.R_drewN|apply Kd.R_drew);exact HO_5.out,by repeat (first|(with_reducible first|exact HB.out|apply qA|apply qN|apply q1_|refine qS ?_ GE302.out)|exact HB.out)⟩
end Go.Proofs.Ytghkbgmbbcaecaa.Q
namespace Go.Proofs.Ytghkbgmbbcaecaa.Q
open Go.RowKit Go.Proofs.YtghkbgmbbcaecaaW.PrintWords Go.Proofs.YtghkbgmbbcaecaaW.PrintLast Go.Proofs.YtghkbgmbbcaecaaW.PrintMore
attribute [local go_sem] run_field_23 run_field_24 run_field_31 run_field_32 run_field_35 run_field_36 isSome_setCell max2_int min2_int max_two min_two max_three min_three max_four min_four   -- for this text's walks alone
set_option linter.unusedVariables false
set_option linter.unusedSimpArgs false
mutual
def spec_l2Text.j0:Nat→Int→ByteArray→List Int→List (S62)→Option (ByteArray)
  | 0,_,_,_,_=>none
  | k+1,x1,x5,x6,x484000=>if 0≤x1 then (if x1<(x484000.length:Int) then (if (rT x484000 x1).f2=true then (if x5.size+1≤9223372036854775807 then (spec_l2Text.j1 k (x5 ++ (⟨#[46]⟩:ByteArray)) x6 x484000) else (none)) else (spec_l2Text.j1 k x5 x6 x484000)) else (none)) else (none)
def spec_l2Text.j1:Nat→ByteArray→List Int→List (S62)→Option (ByteArray)
  | 0,_,_,_=>none
  | k+1,x5,x6,x484000=>if (x6.length:Int)=0 then (some x5) else (if x5.size+1≤9223372036854775807 then (spec_l2Text.l0 k (x5 ++ (⟨#[40]⟩:ByteArray)) x6 0 x484000) else (none))
def spec_l2Text.l0:Nat→ByteArray→List Int→Int→List (S62)→Option (ByteArray)
  | 0,_,_,_,_=>none
  | k+1,x5,x6,x7,x484000=>if x7<(x6.length:Int) then (if 0≤x7 then ((spec_l2Text.f k x484000 (rd x6 x7)).bind fun t493=>(if x5.size+t493.size≤9223372036854775807 then (spec_l2Text.l0 k (x5 ++ t493) x6 (wrap64 (x7+1)) x484000) else (none))) else (none)) else (if x5.size+1≤9223372036854775807 then (some (x5 ++ (⟨#[41]⟩:ByteArray))) else (none))
def spec_l2Text.f:Nat→List (S62)→Int→Option (ByteArray)
  | 0,_,_=>none
  | k+1,l0_0,a1=>(spec_l2Kids.f k l0_0 a1).bind fun t484=>(if a1 > 0 then (if 0≤a1 then (if a1<(l0_0.length:Int) then (spec_l2Text.j0 k a1 (strOfNums (([(wrap64 (97+((rT l0_0 a1).f0))) % 256]:List Int))) t484 l0_0) else (none)) else (none)) else (spec_l2Text.j0 k a1 (⟨#[]⟩:ByteArray) t484 l0_0))
end
def spec_l2Text.T12:Bool × List (List Nat × List Nat):=(true,[([],[]),([],[]),([],[]),([],[]),([2,3],[2,3]),([4],[4]),([1,5],[1,5]),([0,6],[0,6]),([7,6,0,1,2,3,4,5,6,7],[0,7])])
def spec_l2Text.B12:List Nat:=[0,0,0,0,12,28,62,127,255]
theorem spec_l2Text.tab12:rtab .any (opsOf Try.f34 12)=spec_l2Text.T12:=by kernel_rfl
theorem spec_l2Text.bits12:waitsOk spec_l2Text.T12.2 spec_l2Text.B12=true:=by kernel_rfl
set_option maxHeartbeats 8000000 in
set_option maxRecDepth 100000 in
theorem spec_l2Text.calls (k:Nat):∀ (A0_0:Option Addr) (c0_0:Nat) (l0_0:List (S62)) (a1:Int) (r:ByteArray) (w:World) (hr0_0:Kd.C k62 w A0_0 l0_0.length l0_0) (hc0_0:l0_0.length≤c0_0) (h:spec_l2Text.f k l0_0 a1=some r),
  Calls Try.prog 34 #[.agg #[.slice A0_0 l0_0.length c0_0],.int .i64 a1] w fun e w'=>e=.returned (.string r)∧Below w.heap.size w w':=by
 induction k using Nat.strongRecOn with
 | _ k ih =>
 intro A0_0 c0_0 l0_0 a1 r w hr0_0 hc0_0 h
 cases k with
 | zero=>exact absurd h (by simp [spec_l2Text.f])
 | succ k =>
 simp only [spec_l2Text.f] at h
 have hu24:=Try.underlying24
 have HR0_0:=Zz.mk hr0_0
 have HC0_0:=Zz.mk hc0_0
 clear hr0_0 hc0_0
 have HB:=Zz.mk (Below.refl w.heap.size w)
 have H:((spec_l2Kids.f k l0_0 a1).bind fun t484=>(if a1 > 0 then (if 0≤a1 then (if a1<(l0_0.length:Int) then (spec_l2Text.j0 k a1 (strOfNums (([(wrap64 (97+((rT l0_0 a1).f0))) % 256]:List Int))) t484 l0_0) else (none)) else (none)) else (spec_l2Text.j0 k a1 (⟨#[]⟩:ByteArray) t484 l0_0)))=some r:=h
 clear h
 replace H:=Option.bind_eq_some_iff.mp H
 obtain ⟨t484,A30,H⟩:=H
 replace H:(if a1 > 0 then (if 0≤a1 then (if a1<(l0_0.length:Int) then (spec_l2Text.j0 k a1 (strOfNums (([(wrap64 (97+((rT l0_0 a1).f0))) % 256]:List Int))) t484 l0_0) else (none)) else (none)) else (spec_l2Text.j0 k a1 (⟨#[]⟩:ByteArray) t484 l0_0))=some r:=H
 have A3:=Zz.mk A30
 clear A30
 have HC4:=Zz.mk H
 clear H
 go_enter Try.func34,Try.ntmps34
 go_upto_if 12 with (first|((with_reducible refine gate_dst (N:=2) rfl ?_);refine box_event ?hg (N:=2) ?hd (cs:=#[.slice A0_0 l0_0.length c0_0]) (t:=24) ?hr ?_;(case hd=>rfl);(case hg=>rfl);(case hr=>first|(go_simp;done)|(go_simp;rfl));intro gb483 hg w5 hbox hb;have n0_:=Zz.mk (qP (by repeat (first|(with_reducible first|exact HB.out|apply qA|apply qN|apply q1_)|exact HB.out)) hb);have n1_:=Zz.mk (hbox);have n2_:=Zz.mk ((by rw [hg];exact (qZ (by repeat (first|(with_reducible first|exact HB.out|apply qA|apply qN|apply q1_)|exact HB.out))):w.heap.size≤gb483));have n3_:=Zz.mk ((by rw [hg];exact (qZ (by repeat (first|(with_reducible first|exact HB.out|apply qA|apply qN|apply q1_)|exact HB.out))):w.heap.size≤gb483));clear HB;have HB:=n0_;have BK483:=n1_;have GW483:=n2_;have GE483:=n3_;clear n0_ n1_ n2_ n3_;clear hb hbox hg;have hcz6_0:w5.cell? ⟨gb483,0,none⟩=some (.slice A0_0 l0_0.length c0_0):=(bC BK483.out 0).trans rfl;have hfz6_0:=bF BK483.out 0)|((with_reducible refine gate_callee (f:=60) rfl ?_);refine goesL_ (some 10) rfl rfl Try.func60 (by kernel_rfl) rfl #[.agg #[.slice A0_0 l0_0.length c0_0],.int .i64 a1] rfl (by (try simp only [List.map_toArray,List.map_cons,List.map_nil]);first|done|rfl|(simp only [List.length_drop,List.length_take];rfl)) ?_;(with_reducible refine (spec_l2Kids.calls k _ _ l0_0 a1 t484 _ ?side1 ?side2 A3.out).mono ?_);(case side1=>repeat (first|exact (Kd.C_below HR0_0.out HB.out)|(with_reducible refine Kd.C_alloc ?_ _)|(with_reducible refine Kd.C_drewN ?_ _)|(with_reducible refine Kd.C_drew ?_)));(case side2=>exact HC0_0.out);rintro e w7 ⟨v485,rfl,ho0,hb⟩;refine ⟨_,rfl,?_⟩;have n0_:=Zz.mk (Kd.R_lower ho0 (qZ (by repeat (first|(with_reducible first|exact HB.out|apply qA|apply qN|apply q1_|refine qS ?_ GE483.out)|exact HB.out))));have n1_:=Zz.mk (bB (g:=gb483) (o:=.cells #[.slice A0_0 l0_0.length c0_0] 24 (0,0)) (by (with_reducible repeat first|apply bN|apply bD|apply bA);exact BK483.out) hb);have n2_:=Zz.mk (qP (by repeat (first|(with_reducible first|exact HB.out|apply qA|apply qN|apply q1_|refine qS ?_ GE483.out)|exact HB.out)) hb);clear BK483;clear HB;have HO486:=n0_;have BK483:=n1_;have HB:=n2_;clear n0_ n1_ n2_;(try clear hb);(try clear hb2);(try clear hk);(try clear hi);(try clear ho0)))
 (try simp only [Act.put,List.setIfInBounds_toArray,List.set_cons_zero,List.set_cons_succ])
 go_cut [5] (fun v5 wc=>∃ (kq:Nat) (x5_3:ByteArray),v5=.string x5_3∧Zz (spec_l2Text.j0 kq a1 x5_3 t484 l0_0=some r)∧Zz (kq≤k)∧Zz (Kd.R (Kd.int .i64) 3 wc w.heap.size (fun _=>True) v485 t484)∧Zz (wc.heap[gb483]?=some (.cells #[(.slice A0_0 l0_0.length c0_0)] 24 (0,0)))∧Zz (Below w.heap.size w wc))
 case first =>
  have H:=HC4.out
  clear HC4
  by_cases c8:a1 > 0
  ·rw [if_pos c8] at H
   have c8b0:decide (0<a1)=true:=decide_eq_true c8
   clear c8
   (first|rw [c8b0]|(simp only [i64_w,i32_w];rw [c8b0])|skip)
   by_cases c9:0≤a1
   ·rw [if_pos c9] at H
    have c9b0:decide (0≤a1)=true:=decide_eq_true c9
    clear c9
    by_cases c10:a1<(l0_0.length:Int)
    ·rw [if_pos c10] at H
     have c10b0:decide (a1<(l0_0.length:Int))=true:=decide_eq_true c10
     clear c10
     obtain ⟨y488,hy488⟩:∃ y_:List Int,y_=(([(wrap64 (97+((rT l0_0 a1).f0))) % 256]:List Int)):=⟨_,rfl⟩
     replace H:(spec_l2Text.j0 k a1 (strOfNums y488) t484 l0_0)=some r:=by first|(rw [hy488];with_reducible exact H)|(have H2_:=(Option.bind_some _ _).symm.trans H;rw [hy488];with_reducible exact H2_)|(have H2_:=(Option.bind_some _ _).symm.trans H;with_reducible exact H2_)|with_reducible exact H|(rw [hy488];exact H)|exact H
     have Ny488:=Zz.mk hy488
     clear hy488
     have H':=Zz.mk H
     clear H
     have hcz11_0:w7.cell? ⟨gb483,0,none⟩=some (.slice A0_0 l0_0.length c0_0):=(bC BK483.out 0).trans rfl
     have hfz11_0:=bF BK483.out 0
     have p487:0≤(a1:Int):=of_decide_eq_true (by first|(with_reducible assumption)|assumption)
     have q487:a1<(l0_0.length:Int):=of_decide_eq_true (by first|(with_reducible assumption)|assumption)
     obtain ⟨ad487,e487,hx487_0,hx487_1,hx487_2⟩:=at_T62 HR0_0.out a1 p487 q487
     cases e487
     replace hx487_0:=(HB.out.cell (World.block_lt_of_cell? w _ hx487_0)).trans hx487_0
     replace hx487_1:=(HB.out.cell (World.block_lt_of_cell? w _ hx487_1)).trans hx487_1
     replace hx487_2:=(HB.out.cell (World.block_lt_of_cell? w _ hx487_2)).trans hx487_2
     replace p487:=eq_true p487
     replace q487:=eq_true q487
     go_wp2_with (first|((with_reducible refine gate_dst (N:=21) rfl ?_);refine Kd.R_lit (Kd.int .u8) _ 5 ?hg (N:=21) ?hd (xs:=([(wrap64 (97+((rT l0_0 a1).f0))) % 256]:List Int)) (inner:=[.int .u8 ((wrap64 (97+((rT l0_0 a1).f0))) % 256)]) (ok:=fun _=>True) (okp:=fun _=>True) ?hr ?hp (fun _ hk=>hk) trivial (Below.refl _ _) (Nat.le_refl _) (by simp) ?_;(case hd=>rfl);(case hg=>rfl);(case hr=>first|(go_simp;done)|(go_simp;rfl));(case hp=>exact (Reps.one (show Kd.M (Kd.int .u8) _ _ _ ((wrap64 (97+((rT l0_0 a1).f0))) % 256) [.int .u8 ((wrap64 (97+((rT l0_0 a1).f0))) % 256)] from rfl) (Reps.none _ _)));intro v489 w12 ho13 hb hg_ hnew_;clear hg_ hnew_;(first|rw [← Ny488.out] at ho13|(simp only [Int.reduceToNat] at ho13;rw [← Ny488.out] at ho13));have n0_:=Zz.mk (Kd.R_below (by (with_reducible repeat first|apply Kd.R_alloc|apply Kd.R_drewN|apply Kd.R_drew);exact HO486.out) hb);have n1_:=Zz.mk (Kd.R_lower ho13 (qZ (by repeat (first|(with_reducible first|exact HB.out|apply qA|apply qN|apply q1_|refine qS ?_ GE483.out)|exact HB.out))));have n2_:=Zz.mk (bB (g:=gb483) (o:=.cells #[.slice (some ad487) l0_0.length c0_0] 24 (0,0)) (by (with_reducible repeat first|apply bN|apply bD|apply bA);exact BK483.out) hb);have n3_:=Zz.mk (qP (by repeat (first|(with_reducible first|exact HB.out|apply qA|apply qN|apply q1_|refine qS ?_ GE483.out)|exact HB.out)) hb);clear HO486;clear BK483;clear HB;have HO486:=n0_;have HO490:=n1_;have BK483:=n2_;have HB:=n3_;clear n0_ n1_ n2_ n3_;clear hb ho13;have hcv14:=own_string (P:=Try.prog) Try.underlying83 Try.underlying5 Try.underlying9 (Kd.own_of_R HO490.out)))
     go_meet
     case rel=>exact ⟨_,(strOfNums y488),(by first|rfl|(simp;done)|(simp [*];done)),H',⟨by first|omega|exact Nat.le_refl _⟩,⟨by (with_reducible repeat first|apply Kd.R_alloc|apply Kd.R_drewN|apply Kd.R_drew);exact HO486.out⟩,⟨by (with_reducible repeat first|apply bN|apply bD|apply bA);exact BK483.out⟩,⟨by repeat (first|(with_reducible first|exact HB.out|apply qA|apply qN|apply q1_|refine qS ?_ GE483.out)|exact HB.out)⟩⟩
    ·rw [if_neg c10] at H
     exact absurd H (by simp)
   ·rw [if_neg c9] at H
    exact absurd H (by simp)
  ·rw [if_neg c8] at H
   have c8b0:decide (0<a1)=false:=decide_eq_false c8
   clear c8
   (first|rw [c8b0]|(simp only [i64_w,i32_w];rw [c8b0])|skip)
   have H':=Zz.mk H
   clear H
   go_wp2
   go_meet
   case rel=>exact ⟨_,((⟨#[]⟩:ByteArray)),(by first|rfl|(simp;done)|(simp [*];done)),H',⟨by first|omega|exact Nat.le_refl _⟩,⟨by (with_reducible repeat first|apply Kd.R_alloc|apply Kd.R_drewN|apply Kd.R_drew);exact HO486.out⟩,⟨by (with_reducible repeat first|apply bN|apply bD|apply bA);exact BK483.out⟩,⟨by repeat (first|(with_reducible first|exact HB.out|apply qA|apply qN|apply q1_|refine qS ?_ GE483.out)|exact HB.out)⟩⟩
 case rest =>
  clear HC4
  try clear c1
  try clear hcv1
  try clear p2
  try clear c3
  try clear p4
  try clear q4
  try clear hx4
  try clear c6
  try clear p6
  try clear c8
  try clear c8b0
  try clear c9
  try clear c9b0
  try clear c10
  try clear c10b0
  try clear hcv14
  try clear hcz11_0
  try clear hcz6_0
  try clear hfz11_0
  try clear hfz6_0
  try clear hx487_0
  try clear hx487_1
  try clear hx487_2
  try clear p487
  try clear q487
  obtain ⟨kq,x5_3,rfl,HA,HJ3,HO_6,BK483,HB⟩:=hcut
  cases kq with
  | zero=>exact absurd HA.out (by simp [spec_l2Text.j0])
  | succ kj3 =>
   have H:=HA.out
   clear HA
   simp only [spec_l2Text.j0] at H
   by_cases c15:0≤a1
   ·rw [if_pos c15] at H
    have c15b0:decide (0≤a1)=true:=decide_eq_true c15
    clear c15
    by_cases c16:a1<(l0_0.length:Int)
    ·rw [if_pos c16] at H
     have c16b0:decide (a1<(l0_0.length:Int))=true:=decide_eq_true c16
     clear c16
     have HC17:=Zz.mk H
     clear H
     have hcz18_0:wc.cell? ⟨gb483,0,none⟩=some (.slice A0_0 l0_0.length c0_0):=(bC BK483.out 0).trans rfl
     have hfz18_0:=bF BK483.out 0
     have p491:0≤(a1:Int):=of_decide_eq_true (by first|(with_reducible assumption)|assumption)
     have q491:a1<(l0_0.length:Int):=of_decide_eq_true (by first|(with_reducible assumption)|assumption)
     obtain ⟨ad491,e491,hx491_0,hx491_1,hx491_2⟩:=at_T62 HR0_0.out a1 p491 q491
     cases e491
     replace hx491_0:=(HB.out.cell (World.block_lt_of_cell? w _ hx491_0)).trans hx491_0
     replace hx491_1:=(HB.out.cell (World.block_lt_of_cell? w _ hx491_1)).trans hx491_1
     replace hx491_2:=(HB.out.cell (World.block_lt_of_cell? w _ hx491_2)).trans hx491_2
     replace p491:=eq_true p491
     replace q491:=eq_true q491
     go_upto_if 28 with (fail)
     go_cut [5] (fun v5 wc=>∃ (kq:Nat) (x5_16:ByteArray),v5=.string x5_16∧Zz (spec_l2Text.j1 kq x5_16 t484 l0_0=some r)∧Zz (kq≤kj3)∧Zz (Kd.R (Kd.int .i64) 3 wc w.heap.size (fun _=>True) v485 t484)∧Zz (wc.heap[gb483]?=some (.cells #[(.slice (some ad491) l0_0.length c0_0)] 24 (0,0)))∧Zz (Below w.heap.size w wc))
     case first =>
      have H:=HC17.out
      clear HC17
      obtain ⟨bq19,hbq19⟩:∃ b_:Bool,b_=((rT l0_0 a1).f2):=⟨_,rfl⟩
      replace H:(if bq19=true then (if x5_3.size+1≤9223372036854775807 then (spec_l2Text.j1 kj3 (x5_3 ++ (⟨#[46]⟩:ByteArray)) t484 l0_0) else (none)) else (spec_l2Text.j1 kj3 x5_3 t484 l0_0))=some r:=by rw [← hbq19] at H;exact H
      have Nbq19:=Zz.mk hbq19
      clear hbq19
      (try rw [← Nbq19.out])
      by_cases c20:bq19=true
      ·subst c20
       have H1:(if x5_3.size+1≤9223372036854775807 then (spec_l2Text.j1 kj3 (x5_3 ++ (⟨#[46]⟩:ByteArray)) t484 l0_0) else (none))=some r:=by rw [if_pos rfl] at H;exact H
       clear H
       have H:=H1
       clear H1
       by_cases c21:x5_3.size+1≤9223372036854775807
       ·rw [if_pos c21] at H
        have c21b0:=eq_true c21
        have c21b1:decide (x5_3.size+1≤9223372036854775807)=true:=decide_eq_true c21
        try have c21b2:(9223372036854775807<x5_3.size+1)=False:=eq_false (Nat.not_lt.2 c21)
        have H':=Zz.mk H
        clear H
        go_wp2
        go_meet
        case rel=>exact ⟨_,(x5_3 ++ (⟨#[46]⟩:ByteArray)),(by first|rfl|(simp;done)|(simp [*];done)),H',⟨by have:=HJ3.out;first|omega|exact Nat.le_refl _⟩,⟨by (with_reducible repeat first|apply Kd.R_alloc|apply Kd.R_drewN|apply Kd.R_drew);exact HO_6.out⟩,⟨by (with_reducible repeat first|apply bN|apply bD|apply bA);exact BK483.out⟩,⟨by repeat (first|(with_reducible first|exact HB.out|apply qA|apply qN|apply q1_|refine qS ?_ GE483.out)|exact HB.out)⟩⟩
       ·rw [if_neg c21] at H
        exact absurd H (by simp)
      ·replace c20:=Bool.eq_false_iff.mpr c20
       subst c20
       have H1:(spec_l2Text.j1 kj3 x5_3 t484 l0_0)=some r:=by rw [if_neg (show ¬ (false=true) by decide)] at H;exact H
       clear H
       have H:=H1
       clear H1
       have H':=Zz.mk H
       clear H
       go_wp2
       go_meet
       case rel=>exact ⟨_,(x5_3),(by first|rfl|(simp;done)|(simp [*];done)),H',⟨by have:=HJ3.out;first|omega|exact Nat.le_refl _⟩,⟨by (with_reducible repeat first|apply Kd.R_alloc|apply Kd.R_drewN|apply Kd.R_drew);exact HO_6.out⟩,⟨by (with_reducible repeat first|apply bN|apply bD|apply bA);exact BK483.out⟩,⟨by repeat (first|(with_reducible first|exact HB.out|apply qA|apply qN|apply q1_|refine qS ?_ GE483.out)|exact HB.out)⟩⟩
     case rest =>
      clear HC17
      try clear c1
      try clear q1
      try clear hcv1
      try clear c2
      try clear p2
      try clear c3
      try clear p4
      try clear q4
      try clear hx4
      try clear c6
      try clear p6
      try clear c8
      try clear c8b0
      try clear c9
      try clear c9b0
      try clear c10
      try clear c10b0
      try clear hcv14
      try clear c15
      try clear c15b0
      try clear c16
      try clear c16b0
      try clear q19
      try clear c20
      try clear c21
      try clear c21b0
      try clear c21b1
      try clear c21b2
      try clear hcz11_0
      try clear hcz18_0
      try clear hcz6_0
      try clear hfz11_0
      try clear hfz18_0
      try clear hfz6_0
      try clear hx487_0
      try clear hx487_1
      try clear hx487_2
      try clear hx491_0
      try clear hx491_1
      try clear hx491_2
      try clear p2
      try clear p4
      try clear p487
      try clear p491
      try clear p6
      try clear q4
      try clear q487
      try clear q491
      obtain ⟨kq,x5_16,rfl,HA,HJ16,HO_6,BK483,HB⟩:=hcut
      cases kq with
      | zero=>exact absurd HA.out (by simp [spec_l2Text.j1])
      | succ kj16 =>
       have H:=HA.out
       clear HA
       simp only [spec_l2Text.j1] at H
       by_cases c22:(t484.length:Int)=0
       ·rw [if_pos c22] at H
        have c22b0:((t484.length:Int) == 0)=true:=beq_iff_eq.mpr c22
        have c22b1:((t484.length:Int) != 0)=false:=bne_eq_false_iff_eq.mpr c22
        clear c22
        obtain rfl:=Option.some.inj H
        obtain ⟨Ao23,co23,eo23⟩:=Kd.R_slice HO_6.out
        subst eo23
        go_wp2
        go_ret
        exact ⟨by first|rfl|(simp [errW_none,errW_some] <;> rfl)|(simp [*,errW_none,errW_some] <;> rfl),by repeat (first|(with_reducible first|exact HB.out|apply qA|apply qN|apply q1_|refine qS ?_ GE483.out)|exact HB.out)⟩
       ·rw [if_neg c22] at H
        have c22b0:((t484.length:Int) == 0)=false:=beq_eq_false_iff_ne.mpr c22
        have c22b1:((t484.length:Int) != 0)=true:=bne_iff_ne.mpr c22
        have c22b2:¬ (t484=[]):=fun h_=>c22 (by rw [h_];rfl)
        by_cases c24:x5_16.size+1≤9223372036854775807
        ·rw [if_pos c24] at H
         have c24b0:=eq_true c24
         have c24b1:decide (x5_16.size+1≤9223372036854775807)=true:=decide_eq_true c24
         try have c24b2:(9223372036854775807<x5_16.size+1)=False:=eq_false (Nat.not_lt.2 c24)
         have H':=Zz.mk H
         clear H
         obtain ⟨Ao25,co25,eo25⟩:=Kd.R_slice HO_6.out
         subst eo25
         go_wp2
         go_loopg [5,7] kj16 (fun kq v5 v7 w'=>∃ (x5_3:ByteArray) (x7_3:Int),v5=.string x5_3∧v7=.int .i64 x7_3∧Zz (spec_l2Text.l0 kq x5_3 t484 x7_3 l0_0=some r)∧Zz (kq≤kj16)∧Zz (Kd.R (Kd.int .i64) 3 w' w.heap.size (fun _=>True) (.slice Ao25 t484.length co25) t484)∧Zz (w'.heap[gb483]?=some (.cells #[(.slice (some ad491) l0_0.length c0_0)] 24 (0,0)))∧Zz (Below w.heap.size w w'))
         case atStart=>exact ⟨(x5_16 ++ (⟨#[40]⟩:ByteArray)),(0),(by first|rfl|(simp;done)|(simp [*];done)),(by first|rfl|(simp;done)|(simp [*];done)),H',⟨Nat.le_refl _⟩,⟨by (with_reducible repeat first|apply Kd.R_alloc|apply Kd.R_drewN|apply Kd.R_drew);exact HO_6.out⟩,⟨by (with_reducible repeat first|apply bN|apply bD|apply bA);exact BK483.out⟩,⟨by repeat (first|(with_reducible first|exact HB.out|apply qA|apply qN|apply q1_|refine qS ?_ GE483.out)|exact HB.out)⟩⟩
         case round =>
          clear H'
          try clear c1
          try clear q1
          try clear hcv1
          try clear c2
          try clear p2
          try clear c3
          try clear p4
          try clear q4
          try clear hx4
          try clear c6
          try clear p6
          try clear c8
          try clear c8b0
          try clear c9
          try clear c9b0
          try clear c10
          try clear c10b0
          try clear hcv14
          try clear c15
          try clear c15b0
          try clear c16
          try clear c16b0
          try clear q19
          try clear c20
          try clear c21
          try clear c21b0
          try clear c21b1
          try clear c21b2
          try clear c22
          try clear c22b0
          try clear c22b1
          try clear c22b2
          try clear c24
          try clear c24b0
          try clear c24b1
          try clear c24b2
          try clear hcz11_0
          try clear hcz18_0
          try clear hcz6_0
          try clear hfz11_0
          try clear hfz18_0
          try clear hfz6_0
          try clear hx487_0
          try clear hx487_1
          try clear hx487_2
          try clear hx491_0
          try clear hx491_1
          try clear hx491_2
          try clear p2
          try clear p4
          try clear p487
          try clear p491
          try clear p6
          try clear q1
          try clear q19
          try clear q4
          try clear q487
          try clear q491
          obtain ⟨x5_3,x7_3,rfl,rfl,HA,HK3,HO_6,BK483,HB⟩:=hrel
          cases gk with
          | zero=>exact absurd HA.out (by simp [spec_l2Text.l0])
          | succ k3 =>
           have H:=HA.out
           clear HA
           simp only [spec_l2Text.l0] at H
           by_cases c26:x7_3<(t484.length:Int)
           ·rw [if_pos c26] at H
            have c26b0:decide (x7_3<(t484.length:Int))=true:=decide_eq_true c26
            clear c26
            by_cases c27:0≤x7_3
            ·rw [if_pos c27] at H
             have c27b0:decide (0≤x7_3)=true:=decide_eq_true c27
             clear c27
             replace H:=Option.bind_eq_some_iff.mp H
             obtain ⟨t493,A280,H⟩:=H
             replace H:(if x5_3.size+t493.size≤9223372036854775807 then (spec_l2Text.l0 k3 (x5_3 ++ t493) t484 (wrap64 (x7_3+1)) l0_0) else (none))=some r:=H
             have A28:=Zz.mk A280
             clear A280
             by_cases c29:x5_3.size+t493.size≤9223372036854775807
             ·rw [if_pos c29] at H
              have c29b0:=eq_true c29
              have c29b1:decide (x5_3.size+t493.size≤9223372036854775807)=true:=decide_eq_true c29
              try have c29b2:(9223372036854775807<x5_3.size+t493.size)=False:=eq_false (Nat.not_lt.2 c29)
              have H':=Zz.mk H
              clear H
              try go_wp2
              have n0_:=Zz.mk (Kd.R_drew HO_6.out)
              have n1_:=Zz.mk (bD BK483.out)
              have n2_:=Zz.mk (q1_ HB.out)
              revert n0_ n1_ n2_
              clear HO_6 BK483 HB
              intro HO_6 BK483 HB
              have p492:0≤(x7_3:Int):=of_decide_eq_true (by first|(with_reducible assumption)|assumption)
              have q492:x7_3<(t484.length:Int):=of_decide_eq_true (by first|(with_reducible assumption)|assumption)
              obtain ⟨ad492,e492,hx492_0⟩:=Kd.at_int (Kd.R_reads' HO_6.out).2.2 x7_3 p492 q492
              cases e492
              replace p492:=eq_true p492
              replace q492:=eq_true q492
              refine start_ (n:=9) (S:=fun w'=>w'.cell? ⟨gb483,0,none⟩=some (.slice (some ad491) l0_0.length c0_0)∧w'.cell? (ad492.add (x7_3).toNat)=some (.int .i64 (rd t484 x7_3))) (ds:=[]) #[false,false,false,false,false,false,false,false,false] (by kernel_rfl) rfl rfl ⟨(bC BK483.out 0).trans rfl,hx492_0⟩ (fun hHeld=>?_);refine with_tabW spec_l2Text.tab12 spec_l2Text.bits12 (fun HT_ HW_=>?_)
              generalize wr.drew=w30 at HO_6 BK483 HB hx492_0 hHeld ⊢
              refine pure_ (i:=0) (N:=some 43) (v:=?_) (a':=?_) #[true,false,false,false,false,false,false,false,false] rfl rfl (any_of HT_.out (by kernel_rfl)) (fun _ _ _ h=>h) (Or.inl ⟨by rfl,?_⟩) ?_ ?_
              rotate_left
              ·intro w'
               go_simp
               with_reducible rfl
              rotate_left
              ·simp only [Act.put,List.setIfInBounds_toArray,List.set_cons_zero,List.set_cons_succ,i64_w,i32_w]
               rfl
              refine pure_ (i:=2) (N:=some 45) (v:=?_) (a':=?_) #[true,false,true,false,false,false,false,false,false] rfl rfl (any_of HT_.out (by kernel_rfl)) (fun _ _ _ h=>h) (Or.inl ⟨by rfl,?_⟩) ?_ ?_
              rotate_left
              ·intro w'
               go_simp
               with_reducible rfl
              rotate_left
              ·simp only [Act.put,List.setIfInBounds_toArray,List.set_cons_zero,List.set_cons_succ,i64_w,i32_w]
               rfl
              refine pure_ (i:=3) (N:=some 46) (v:=?_) (a':=?_) #[true,false,true,true,false,false,false,false,false] rfl rfl (any_of HT_.out (by kernel_rfl)) (fun _ _ _ h=>h) (Or.inl ⟨by rfl,?_⟩) ?_ ?_
              rotate_left
              ·intro w'
               go_simp
               with_reducible rfl
              rotate_left
              ·simp only [Act.put,List.setIfInBounds_toArray,List.set_cons_zero,List.set_cons_succ,i64_w,i32_w]
               rfl
              refine pure_ (i:=4) (N:=some 47) (v:=?_) (a':=?_) #[true,false,true,true,true,false,false,false,false] rfl rfl (any_of HT_.out (by kernel_rfl)) (fun _ _ _ h=>h) (Or.inl ⟨by rfl,?_⟩) ?_ ?_
              rotate_left
              ·intro w'
               go_simp
               with_reducible rfl
              rotate_left
              ·simp only [Act.put,List.setIfInBounds_toArray,List.set_cons_zero,List.set_cons_succ,i64_w,i32_w]
               rfl
              refine take_ (i:=1) (N:=some 44) (v:=?_) (a':=?_) #[true,true,true,true,true,false,false,false,false] rfl rfl (take_ofW HT_.out HW_.out (by kernel_rfl)) (fun _ _ _ h=>h) (Or.inl ⟨by rfl,?_⟩) hHeld ?_ ?_
              rotate_left
              ·rintro w' ⟨s0,s1⟩
               go_simp
               with_reducible rfl
              rotate_left
              ·simp only [Act.put,List.setIfInBounds_toArray,List.set_cons_zero,List.set_cons_succ,i64_w,i32_w]
               rfl
              refine take_ (i:=5) (N:=some 48) (v:=?_) (a':=?_) #[true,true,true,true,true,true,false,false,false] rfl rfl (take_ofW HT_.out HW_.out (by kernel_rfl)) (fun _ _ _ h=>h) (Or.inl ⟨by rfl,?_⟩) hHeld ?_ ?_
              rotate_left
              ·rintro w' ⟨s0,s1⟩
               go_simp
               with_reducible rfl
              rotate_left
              ·simp only [Act.put,List.setIfInBounds_toArray,List.set_cons_zero,List.set_cons_succ,i64_w,i32_w]
               rfl
              refine one_ (i:=6) (N:=some 49) #[true,true,true,true,true,true,true,false,false] rfl rfl (one_of HT_.out (by kernel_rfl)) (by decide) (fun K hK=>?_)
              refine goes_ Try.func34 (by kernel_rfl) rfl #[.agg #[.slice (some ad491) l0_0.length c0_0],.int .i64 (rd t484 x7_3)] (by rfl) rfl rfl (by (try simp only [List.map_toArray,List.map_cons,List.map_nil]);first|done|rfl|(simp only [List.length_drop,List.length_take];rfl)) ?_
              with_reducible refine (ih k3 (by have:=HJ3.out;have:=HJ16.out;have:=HK3.out;omega) _ _ l0_0 (rd t484 x7_3) t493 _ ?side1 ?side2 A28.out).mono ?_
              (case side1=>exact (Kd.C_below HR0_0.out HB.out))
              (case side2=>exact HC0_0.out)
              rintro e w31 ⟨rfl,hb⟩
              have HS1_:=(hb.cell (World.block_lt_of_cell? _ _ (hHeld.2))).trans (hHeld.2)
              refine ⟨_,rfl,?_⟩
              have n0_:=Zz.mk (Kd.R_below HO_6.out hb)
              have n1_:=Zz.mk (bB BK483.out hb)
              have n2_:=Zz.mk (qP HB.out hb)
              revert n0_ n1_ n2_
              clear HO_6 BK483 HB
              intro HO_6 BK483 HB
              (try clear hb)
              (try clear hb2)
              (try clear hk)
              (try clear hi)
              refine hK.out _ _ ⟨(bC BK483.out 0).trans rfl,HS1_⟩ (fun hHeld=>?_)
              clear hK K
              refine norm_ (a':=?_) ?_ ?_
              rotate_left
              ·show Act.put _ (some 49) _=_
               simp only [Act.put,List.setIfInBounds_toArray,List.set_cons_zero,List.set_cons_succ,i64_w,i32_w]
               rfl
              refine pure_ (i:=7) (N:=some 50) (v:=?_) (a':=?_) #[true,true,true,true,true,true,true,true,false] rfl rfl (any_of HT_.out (by kernel_rfl)) (fun _ _ _ h=>h) (Or.inl ⟨by rfl,?_⟩) ?_ ?_
              rotate_left
              ·intro w'
               go_simp
               with_reducible rfl
              rotate_left
              ·simp only [Act.put,List.setIfInBounds_toArray,List.set_cons_zero,List.set_cons_succ,i64_w,i32_w]
               rfl
              refine pure_ (i:=8) (N:=some 5) (v:=?_) (a':=?_) #[true,true,true,true,true,true,true,true,true] rfl rfl (any_of HT_.out (by kernel_rfl)) (fun _ _ _ h=>h) (Or.inl ⟨by rfl,?_⟩) ?_ ?_
              rotate_left
              ·intro w'
               go_simp
               with_reducible rfl
              rotate_left
              ·simp only [Act.put,List.setIfInBounds_toArray,List.set_cons_zero,List.set_cons_succ,i64_w,i32_w]
               rfl
              refine done_ (done_of HT_.out (by kernel_rfl)) ?_
              try go_wp2
              go_roundg k3
              case measure=>have:=HJ3.out;have:=HJ16.out;have:=HK3.out;omega
              case rel=>exact ⟨(x5_3 ++ t493),(wrap64 (x7_3+1)),(by first|rfl|(simp;done)|(simp [*];done)),(by first|rfl|(simp;done)|(simp [*];done)),H',⟨by have:=HJ3.out;have:=HJ16.out;have:=HK3.out;omega⟩,⟨by (with_reducible repeat first|apply Kd.R_alloc|apply Kd.R_drewN|apply Kd.R_drew);exact HO_6.out⟩,⟨by (with_reducible repeat first|apply bN|apply bD|apply bA);exact BK483.out⟩,⟨by repeat (first|(with_reducible first|exact HB.out|apply qA|apply qN|apply q1_|refine qS ?_ GE483.out)|exact HB.out)⟩⟩
             ·rw [if_neg c29] at H
              exact absurd H (by simp)
            ·rw [if_neg c27] at H
             exact absurd H (by simp)
           ·rw [if_neg c26] at H
            have c26b0:decide (x7_3<(t484.length:Int))=false:=decide_eq_false c26
            clear c26
            by_cases c32:x5_3.size+1≤9223372036854775807
            ·rw [if_pos c32] at H
             have c32b0:=eq_true c32
             have c32b1:decide (x5_3.size+1≤9223372036854775807)=true:=decide_eq_true c32
             try have c32b2:(9223372036854775807<x5_3.size+1)=False:=eq_false (Nat.not_lt.2 c32)
             obtain rfl:=Option.some.inj H
             go_wp2
             go_ret
             exact ⟨by first|rfl|(simp [errW_none,errW_some] <;> rfl)|(simp [*,errW_none,errW_some] <;> rfl),by repeat (first|(with_reducible first|exact HB.out|apply qA|apply qN|apply q1_|refine qS ?_ GE483.out)|exact HB.out)⟩
            ·rw [if_neg c32] at H
             exact absurd H (by simp)
        ·rw [if_neg c24] at H
         exact absurd H (by simp)
    ·rw [if_neg c16] at H
     exact absurd H (by simp)
   ·rw [if_neg c15] at H
    exact absurd H (by simp)
end Go.Proofs.Ytghkbgmbbcaecaa.Q
namespace Go.Proofs.Ytghkbgmbbcaecaa.Q
open Go.RowKit Go.Proofs.YtghkbgmbbcaecaaW.PrintWords Go.Proofs.YtghkbgmbbcaecaaW.PrintLast Go.Proofs.YtghkbgmbbcaecaaW.PrintMore
attribute [local go_sem] run_field_23 run_field_24 run_field_31 run_field_32 run_field_35 run_field_36 isSome_setCell max2_int min2_int max_two min_two max_three min_three max_four min_four   -- for this text's walks alone
set_option linter.unusedVariables false
set_option linter.unusedSimpArgs false
def spec_l2Parse.l0:Nat→ByteArray→List ByteArray→ByteArray→ByteArray→Int→Option ((List (S62)) × Bool)
  | 0,_,_,_,_,_=>none
  | k+1,x0,x4,x5,x6,x7=>if x7<(x0.size:Int) then (if 0≤x7 then (if (bt x0 x7)=46 then (if x5.size+x6.size≤9223372036854775807 then (if x4.length<8796093022208 then (spec_l2Parse.l0 k x0 (x4 ++ [x5 ++ x6]) x5 x6 (wrap64 (x7+1))) else (none)) else (none)) else (if (bt x0 x7)=40 then (if x5.size+x6.size≤9223372036854775807 then (spec_l2Parse.l0 k x0 x4 (x5 ++ x6) (⟨#[]⟩:ByteArray) (wrap64 (x7+1))) else (none)) else (if (bt x0 x7)=41 then (if x5.toList=([]:List UInt8) then (spec_l2Parse.l0 k x0 x4 x5 (⟨#[]⟩:ByteArray) (wrap64 (x7+1))) else (if 0≤(wrap64 ((x5.size:Int) - 1)) then (if (wrap64 ((x5.size:Int) - 1))≤(x5.size:Int) then (spec_l2Parse.l0 k x0 x4 (x5.extract 0 ((wrap64 ((x5.size:Int) - 1)):Int).toNat) (x5.extract ((wrap64 ((x5.size:Int) - 1)):Int).toNat x5.size) (wrap64 (x7+1))) else (none)) else (none))) else (if x7≤(wrap64 (x7+1)) then (if (wrap64 (x7+1))≤(x0.size:Int) then (spec_l2Parse.l0 k x0 x4 x5 (x0.extract (x7:Int).toNat ((wrap64 (x7+1)):Int).toNat) (wrap64 (x7+1))) else (none)) else (none))))) else (none)) else ((spec_l2Set.f k x4).bind fun bt501=>(if bt501.2=true then ((spec_l2Of.f k bt501.1).bind fun t505=>((spec_l2Text.f k t505 0).bind fun t509=>(if t509.toList=x0.toList then (some (t505,true)) else (some (([]:List (S62)),false))))) else (some (([]:List (S62)),false))))
def spec_l2Parse.f (k:Nat) (a0:ByteArray):Option ((List (S62)) × Bool):=if (a0.size:Int) > 1443 then (some (([]:List (S62)),false)) else (spec_l2Parse.l0 k a0 (([]:List ByteArray)) (⟨#[]⟩:ByteArray) (⟨#[]⟩:ByteArray) 0)
set_option maxHeartbeats 8000000 in
set_option maxRecDepth 100000 in
theorem spec_l2Parse.calls (k:Nat) (a0:ByteArray) (r1:List (S62)) (r2:Bool) (w:World) (h:spec_l2Parse.f k a0=some (r1,r2)) :
  Calls Try.prog 17 #[.string a0] w fun e w'=>∃ v0_:Value,e=.returned (.tuple #[.agg #[v0_],.bool r2])∧Kd.R k62 62 w' w.heap.size (fun _=>True) v0_ r1∧Below w.heap.size w w':=by
 have hu24:=Try.underlying24
 have HB:=Zz.mk (Below.refl w.heap.size w)
 have H:(if (a0.size:Int) > 1443 then (some (([]:List (S62)),false)) else (spec_l2Parse.l0 k a0 (([]:List ByteArray)) (⟨#[]⟩:ByteArray) (⟨#[]⟩:ByteArray) 0))=some (r1,r2):=h
 clear h
 obtain ⟨y495,hy495⟩:∃ y_:List ByteArray,y_=(([]:List ByteArray)):=⟨_,rfl⟩
 replace H:(if (a0.size:Int) > 1443 then (some (([]:List (S62)),false)) else (spec_l2Parse.l0 k a0 y495 (⟨#[]⟩:ByteArray) (⟨#[]⟩:ByteArray) 0))=some (r1,r2):=by first|(rw [hy495];with_reducible exact H)|(have H2_:=(Option.bind_some _ _).symm.trans H;rw [hy495];with_reducible exact H2_)|(have H2_:=(Option.bind_some _ _).symm.trans H;with_reducible exact H2_)|with_reducible exact H|(rw [hy495];exact H)|exact H
 have Ny495:=Zz.mk hy495
 clear hy495
 by_cases c2:(a0.size:Int) > 1443
 ·rw [if_pos c2] at H
  have c2b0:decide (1443<(a0.size:Int))=true:=decide_eq_true c2
  have c2b1:decide (1443<a0.size)=true:=decide_eq_true (by omega)
  clear c2
  simp only [Option.some.injEq,Prod.mk.injEq] at H
  obtain ⟨rfl,rfl⟩:=H
  go_enter Try.func17,Try.ntmps17
  go_wp2_with (first|((with_reducible refine gate_dst (N:=2) rfl ?_);refine box_event ?hg (N:=2) ?hd (cs:=#[.slice none 0 0]) (t:=24) ?hr ?_;(case hd=>rfl);(case hg=>rfl);(case hr=>first|(go_simp;done)|(go_simp;rfl));intro gb494 hg w3 hbox hb;have n0_:=Zz.mk (qP (by repeat (first|(with_reducible first|exact HB.out|apply qA|apply qN|apply q1_)|exact HB.out)) hb);have n1_:=Zz.mk (hbox);have n2_:=Zz.mk ((by rw [hg];exact (qZ (by repeat (first|(with_reducible first|exact HB.out|apply qA|apply qN|apply q1_)|exact HB.out))):w.heap.size≤gb494));have n3_:=Zz.mk ((by rw [hg];exact (qZ (by repeat (first|(with_reducible first|exact HB.out|apply qA|apply qN|apply q1_)|exact HB.out))):w.heap.size≤gb494));clear HB;have HB:=n0_;have BK494:=n1_;have GW494:=n2_;have GE494:=n3_;clear n0_ n1_ n2_ n3_;clear hb hbox hg)|((with_reducible refine gate_dst (N:=11) rfl ?_);refine Kd.R_lit Kd.string _ 9 ?hg (N:=11) ?hd (xs:=([]:List ByteArray)) (inner:=[]) (ok:=fun _=>True) (okp:=fun _=>True) ?hr ?hp (fun _ hk=>hk) trivial (Below.refl _ _) (Nat.le_refl _) (by simp) ?_;(case hd=>rfl);(case hg=>rfl);(case hr=>first|(go_simp;done)|(go_simp;rfl));(case hp=>exact (Reps.none _ _));intro v496 w4 ho5 hb hg_ hnew_;clear hg_ hnew_;(first|rw [← Ny495.out] at ho5|(simp only [Int.reduceToNat] at ho5;rw [← Ny495.out] at ho5));have n0_:=Zz.mk (Kd.R_lower ho5 (qZ (by repeat (first|(with_reducible first|exact HB.out|apply qA|apply qN|apply q1_|refine qS ?_ GE494.out)|exact HB.out))));have n1_:=Zz.mk (bB (g:=gb494) (o:=.cells #[.slice none 0 0] 24 (0,0)) (by (with_reducible repeat first|apply bN|apply bD|apply bA);exact BK494.out) hb);have n2_:=Zz.mk (qP (by repeat (first|(with_reducible first|exact HB.out|apply qA|apply qN|apply q1_|refine qS ?_ GE494.out)|exact HB.out)) hb);clear BK494;clear HB;have HO497:=n0_;have BK494:=n1_;have HB:=n2_;clear n0_ n1_ n2_;clear hb ho5;have hcz6_0:w4.cell? ⟨gb494,0,none⟩=some (.slice none 0 0):=(bC BK494.out 0).trans rfl;have hfz6_0:=bF BK494.out 0))
  refine bodyPost_ret (results_ct rfl _ _ gb494 24 #[.slice none 0 0] (0,0) _ rfl (by (with_reducible repeat first|apply bN|apply bD|apply bA);refine blk_put (cs:=#[.slice none 0 0]) ?_ 0 _ rfl;(with_reducible repeat first|apply bN|apply bD|apply bA);exact BK494.out) Try.underlying24 rfl (by kernel_rfl)) rfl ?_
  exact ⟨_,by first|rfl|(simp [errW_none,errW_some] <;> rfl)|(simp [*,errW_none,errW_some] <;> rfl),by first|exact Kd.R_nil _ _ _ _ _|exact Kd.N_nil _ _ _ _ _|exact Kd.V_nil _ _ _ _ _|exact Kd.Q_nil _ _ _ _ _|exact Kd.S_nil _ _ _ _ _,by repeat (first|(with_reducible first|exact HB.out|apply qA|apply qN|apply q1_|refine qS ?_ GE494.out)|exact HB.out)⟩
 ·rw [if_neg c2] at H
  have c2b0:decide (1443<(a0.size:Int))=false:=decide_eq_false c2
  have c2b1:decide (1443<a0.size)=false:=decide_eq_false (by omega)
  clear c2
  have H':=Zz.mk H
  clear H
  go_enter Try.func17,Try.ntmps17
  go_wp2_with (first|((with_reducible refine gate_dst (N:=2) rfl ?_);refine box_event ?hg (N:=2) ?hd (cs:=#[.slice none 0 0]) (t:=24) ?hr ?_;(case hd=>rfl);(case hg=>rfl);(case hr=>first|(go_simp;done)|(go_simp;rfl));intro gb494 hg w7 hbox hb;have n0_:=Zz.mk (qP (by repeat (first|(with_reducible first|exact HB.out|apply qA|apply qN|apply q1_)|exact HB.out)) hb);have n1_:=Zz.mk (hbox);have n2_:=Zz.mk ((by rw [hg];exact (qZ (by repeat (first|(with_reducible first|exact HB.out|apply qA|apply qN|apply q1_)|exact HB.out))):w.heap.size≤gb494));have n3_:=Zz.mk ((by rw [hg];exact (qZ (by repeat (first|(with_reducible first|exact HB.out|apply qA|apply qN|apply q1_)|exact HB.out))):w.heap.size≤gb494));clear HB;have HB:=n0_;have BK494:=n1_;have GW494:=n2_;have GE494:=n3_;clear n0_ n1_ n2_ n3_;clear hb hbox hg)|((with_reducible refine gate_dst (N:=11) rfl ?_);refine Kd.R_lit Kd.string _ 9 ?hg (N:=11) ?hd (xs:=([]:List ByteArray)) (inner:=[]) (ok:=fun _=>True) (okp:=fun _=>True) ?hr ?hp (fun _ hk=>hk) trivial (Below.refl _ _) (Nat.le_refl _) (by simp) ?_;(case hd=>rfl);(case hg=>rfl);(case hr=>first|(go_simp;done)|(go_simp;rfl));(case hp=>exact (Reps.none _ _));intro v496 w8 ho9 hb hg_ hnew_;clear hg_ hnew_;(first|rw [← Ny495.out] at ho9|(simp only [Int.reduceToNat] at ho9;rw [← Ny495.out] at ho9));have n0_:=Zz.mk (Kd.R_lower ho9 (qZ (by repeat (first|(with_reducible first|exact HB.out|apply qA|apply qN|apply q1_|refine qS ?_ GE494.out)|exact HB.out))));have n1_:=Zz.mk (bB (g:=gb494) (o:=.cells #[.slice none 0 0] 24 (0,0)) (by (with_reducible repeat first|apply bN|apply bD|apply bA);exact BK494.out) hb);have n2_:=Zz.mk (qP (by repeat (first|(with_reducible first|exact HB.out|apply qA|apply qN|apply q1_|refine qS ?_ GE494.out)|exact HB.out)) hb);clear BK494;clear HB;have HO497:=n0_;have BK494:=n1_;have HB:=n2_;clear n0_ n1_ n2_;clear hb ho9))
  go_loopg [4,5,6,7] k (fun kq v4 v5 v6 v7 w'=>∃ (x4_1:List ByteArray) (x5_1:ByteArray) (x6_1:ByteArray) (x7_1:Int),v5=.string x5_1∧v6=.string x6_1∧v7=.int .i64 x7_1∧Zz (spec_l2Parse.l0 kq a0 x4_1 x5_1 x6_1 x7_1=some (r1,r2))∧Zz (kq≤k)∧Zz (Kd.R Kd.string 9 w' w.heap.size (fun _=>True) v4 x4_1)∧Zz (w'.heap[gb494]?=some (.cells #[(.slice none 0 0)] 24 (0,0)))∧Zz (Below w.heap.size w w'))
  case atStart=>exact ⟨(y495),((⟨#[]⟩:ByteArray)),((⟨#[]⟩:ByteArray)),(0),(by first|rfl|(simp;done)|(simp [*];done)),(by first|rfl|(simp;done)|(simp [*];done)),(by first|rfl|(simp;done)|(simp [*];done)),H',⟨Nat.le_refl _⟩,⟨by (with_reducible repeat first|apply Kd.R_alloc|apply Kd.R_drewN|apply Kd.R_drew);exact HO497.out⟩,⟨by (with_reducible repeat first|apply bN|apply bD|apply bA);exact BK494.out⟩,⟨by repeat (first|(with_reducible first|exact HB.out|apply qA|apply qN|apply q1_|refine qS ?_ GE494.out)|exact HB.out)⟩⟩
  case round =>
   clear H'
   try clear c1
   try clear c2
   try clear c2b0
   try clear c2b1
   try clear p2
   try clear hcz6_0
   try clear hfz6_0
   obtain ⟨x4_1,x5_1,x6_1,x7_1,rfl,rfl,rfl,HA,HK1,HO_4,BK494,HB⟩:=hrel
   cases gk with
   | zero=>exact absurd HA.out (by simp [spec_l2Parse.l0])
   | succ k1 =>
    have H:=HA.out
    clear HA
    simp only [spec_l2Parse.l0] at H
    by_cases c10:x7_1<(a0.size:Int)
    ·rw [if_pos c10] at H
     have c10b0:decide (x7_1<(a0.size:Int))=true:=decide_eq_true c10
     clear c10
     by_cases c11:0≤x7_1
     ·rw [if_pos c11] at H
      have c11b0:decide (0≤x7_1)=true:=decide_eq_true c11
      clear c11
      by_cases c13:(bt a0 x7_1)=46
      ·rw [if_pos c13] at H
       have c13b0:((bt a0 x7_1) == 46)=true:=beq_iff_eq.mpr c13
       have c13b1:((bt a0 x7_1) != 46)=false:=bne_eq_false_iff_eq.mpr c13
       clear c13
       by_cases c14:x5_1.size+x6_1.size≤9223372036854775807
       ·rw [if_pos c14] at H
        have c14b0:=eq_true c14
        have c14b1:decide (x5_1.size+x6_1.size≤9223372036854775807)=true:=decide_eq_true c14
        try have c14b2:(9223372036854775807<x5_1.size+x6_1.size)=False:=eq_false (Nat.not_lt.2 c14)
        by_cases c15:x4_1.length<8796093022208
        ·rw [if_pos c15] at H
         have LMc15:=Zz.mk c15
         clear c15
         obtain ⟨y498,hy498⟩:∃ y_:List ByteArray,y_=(x4_1 ++ [x5_1 ++ x6_1]):=⟨_,rfl⟩
         replace H:(spec_l2Parse.l0 k1 a0 y498 x5_1 x6_1 (wrap64 (x7_1+1)))=some (r1,r2):=by first|(rw [hy498];with_reducible exact H)|(have H2_:=(Option.bind_some _ _).symm.trans H;rw [hy498];with_reducible exact H2_)|(have H2_:=(Option.bind_some _ _).symm.trans H;with_reducible exact H2_)|with_reducible exact H|(rw [hy498];exact H)|exact H
         have Ny498:=Zz.mk hy498
         clear hy498
         have H':=Zz.mk H
         clear H
         have p12:0≤(x7_1:Int):=of_decide_eq_true (by first|(with_reducible assumption)|assumption)
         have q12:x7_1<(a0.size:Int):=of_decide_eq_true (by first|(with_reducible assumption)|assumption)
         have hx12:=bt_at a0 x7_1
         replace p12:=eq_true p12
         replace q12:=eq_true q12
         go_wp2_with (first|((with_reducible refine gate_builtin (b:=.append) (xs:=#[.tmp 32,.tmp 36]) rfl ?_);at_builtin;refine Kd.R_append Kd.string (w0:=w) w.heap.size rfl (.tmp 32) (.tmp 36) 44 9 (.string ⟨#[]⟩) 16 rfl Try.underlying44 info9 rfl (by decide) (by omega) u4 x4_1 (x5_1 ++ x6_1) [.string (x5_1 ++ x6_1)] (fun _=>True) (fun _=>False) rfl rfl ?aP (fun _ hk=>hk.elim) ?aF ?aO ?aB ?aS ?aL ?_;(case aP=>exact rfl);(case aB=>exact (by repeat (first|(with_reducible first|exact HB.out|apply qA|apply qN|apply q1_|refine qS ?_ GE494.out)|exact HB.out)));(case aF=>exact (fun _ _=>trivial));(case aO=>exact (by (with_reducible repeat first|apply Kd.R_alloc|apply Kd.R_drewN|apply Kd.R_drew);exact HO_4.out));(case aS=>exact (qZ (by repeat (first|(with_reducible first|exact HB.out|apply qA|apply qN|apply q1_|refine qS ?_ GE494.out)|exact HB.out))));(case aL=>have:=LMc15.out;omega);intro v499 w16 ho hb hg hat;rw [← Ny498.out] at ho;have n0_:=Zz.mk (blk_grown (g:=gb494) (o:=.cells #[.slice none 0 0] 24 (0,0)) (by (with_reducible repeat first|apply bN|apply bD|apply bA);exact BK494.out) hg (Kd.R_ne HO_4.out BK494.out (by decide)));have n1_:=Zz.mk (hb);have n2_:=Zz.mk (ho);clear BK494;clear HB;clear HO_4;have BK494:=n0_;have HB:=n1_;have HO500:=n2_;clear n0_ n1_ n2_;clear ho hb hg hat))
         go_roundg k1
         case measure=>have:=HK1.out;omega
         case rel=>exact ⟨(y498),(x5_1),(x6_1),(wrap64 (x7_1+1)),(by first|rfl|(simp;done)|(simp [*];done)),(by first|rfl|(simp;done)|(simp [*];done)),(by first|rfl|(simp;done)|(simp [*];done)),H',⟨by have:=HK1.out;omega⟩,⟨by (with_reducible repeat first|apply Kd.R_alloc|apply Kd.R_drewN|apply Kd.R_drew);exact HO500.out⟩,⟨by (with_reducible repeat first|apply bN|apply bD|apply bA);exact BK494.out⟩,⟨by repeat (first|(with_reducible first|exact HB.out|apply qA|apply qN|apply q1_|refine qS ?_ GE494.out)|exact HB.out)⟩⟩
        ·rw [if_neg c15] at H
         exact absurd H (by simp)
       ·rw [if_neg c14] at H
        exact absurd H (by simp)
      ·rw [if_neg c13] at H
       have c13b0:((bt a0 x7_1) == 46)=false:=beq_eq_false_iff_ne.mpr c13
       have c13b1:((bt a0 x7_1) != 46)=true:=bne_iff_ne.mpr c13
       by_cases c18:(bt a0 x7_1)=40
       ·rw [if_pos c18] at H
        have c18b0:((bt a0 x7_1) == 40)=true:=beq_iff_eq.mpr c18
        have c18b1:((bt a0 x7_1) != 40)=false:=bne_eq_false_iff_eq.mpr c18
        clear c18
        by_cases c19:x5_1.size+x6_1.size≤9223372036854775807
        ·rw [if_pos c19] at H
         have c19b0:=eq_true c19
         have c19b1:decide (x5_1.size+x6_1.size≤9223372036854775807)=true:=decide_eq_true c19
         try have c19b2:(9223372036854775807<x5_1.size+x6_1.size)=False:=eq_false (Nat.not_lt.2 c19)
         have H':=Zz.mk H
         clear H
         have p12:0≤(x7_1:Int):=of_decide_eq_true (by first|(with_reducible assumption)|assumption)
         have q12:x7_1<(a0.size:Int):=of_decide_eq_true (by first|(with_reducible assumption)|assumption)
         have hx12:=bt_at a0 x7_1
         replace p12:=eq_true p12
         replace q12:=eq_true q12
         have p17:0≤(x7_1:Int):=of_decide_eq_true (by first|(with_reducible assumption)|assumption)
         have q17:x7_1<(a0.size:Int):=of_decide_eq_true (by first|(with_reducible assumption)|assumption)
         have hx17:=bt_at a0 x7_1
         replace p17:=eq_true p17
         replace q17:=eq_true q17
         go_wp2
         go_roundg k1
         case measure=>have:=HK1.out;omega
         case rel=>exact ⟨(x4_1),(x5_1 ++ x6_1),((⟨#[]⟩:ByteArray)),(wrap64 (x7_1+1)),(by first|rfl|(simp;done)|(simp [*];done)),(by first|rfl|(simp;done)|(simp [*];done)),(by first|rfl|(simp;done)|(simp [*];done)),H',⟨by have:=HK1.out;omega⟩,⟨by (with_reducible repeat first|apply Kd.R_alloc|apply Kd.R_drewN|apply Kd.R_drew);exact HO_4.out⟩,⟨by (with_reducible repeat first|apply bN|apply bD|apply bA);exact BK494.out⟩,⟨by repeat (first|(with_reducible first|exact HB.out|apply qA|apply qN|apply q1_|refine qS ?_ GE494.out)|exact HB.out)⟩⟩
        ·rw [if_neg c19] at H
         exact absurd H (by simp)
       ·rw [if_neg c18] at H
        have c18b0:((bt a0 x7_1) == 40)=false:=beq_eq_false_iff_ne.mpr c18
        have c18b1:((bt a0 x7_1) != 40)=true:=bne_iff_ne.mpr c18
        by_cases c21:(bt a0 x7_1)=41
        ·rw [if_pos c21] at H
         have c21b0:((bt a0 x7_1) == 41)=true:=beq_iff_eq.mpr c21
         have c21b1:((bt a0 x7_1) != 41)=false:=bne_eq_false_iff_eq.mpr c21
         clear c21
         by_cases c22:x5_1.toList=([]:List UInt8)
         ·rw [if_pos c22] at H
          have c22b0:(x5_1.toList == ([]:List UInt8))=true:=beq_iff_eq.mpr c22
          have c22b1:(x5_1.toList != ([]:List UInt8))=false:=bne_eq_false_iff_eq.mpr c22
          clear c22
          have H':=Zz.mk H
          clear H
          have p12:0≤(x7_1:Int):=of_decide_eq_true (by first|(with_reducible assumption)|assumption)
          have q12:x7_1<(a0.size:Int):=of_decide_eq_true (by first|(with_reducible assumption)|assumption)
          have hx12:=bt_at a0 x7_1
          replace p12:=eq_true p12
          replace q12:=eq_true q12
          have p17:0≤(x7_1:Int):=of_decide_eq_true (by first|(with_reducible assumption)|assumption)
          have q17:x7_1<(a0.size:Int):=of_decide_eq_true (by first|(with_reducible assumption)|assumption)
          have hx17:=bt_at a0 x7_1
          replace p17:=eq_true p17
          replace q17:=eq_true q17
          have p20:0≤(x7_1:Int):=of_decide_eq_true (by first|(with_reducible assumption)|assumption)
          have q20:x7_1<(a0.size:Int):=of_decide_eq_true (by first|(with_reducible assumption)|assumption)
          have hx20:=bt_at a0 x7_1
          replace p20:=eq_true p20
          replace q20:=eq_true q20
          go_wp2
          go_roundg k1
          case measure=>have:=HK1.out;omega
          case rel=>exact ⟨(x4_1),(x5_1),((⟨#[]⟩:ByteArray)),(wrap64 (x7_1+1)),(by first|rfl|(simp;done)|(simp [*];done)),(by first|rfl|(simp;done)|(simp [*];done)),(by first|rfl|(simp;done)|(simp [*];done)),H',⟨by have:=HK1.out;omega⟩,⟨by (with_reducible repeat first|apply Kd.R_alloc|apply Kd.R_drewN|apply Kd.R_drew);exact HO_4.out⟩,⟨by (with_reducible repeat first|apply bN|apply bD|apply bA);exact BK494.out⟩,⟨by repeat (first|(with_reducible first|exact HB.out|apply qA|apply qN|apply q1_|refine qS ?_ GE494.out)|exact HB.out)⟩⟩
         ·rw [if_neg c22] at H
          have c22b0:(x5_1.toList == ([]:List UInt8))=false:=beq_eq_false_iff_ne.mpr c22
          have c22b1:(x5_1.toList != ([]:List UInt8))=true:=bne_iff_ne.mpr c22
          obtain ⟨ji23,hji23⟩:∃ j_:Int,(wrap64 ((x5_1.size:Int) - 1))=j_:=⟨_,rfl⟩
          replace H:(if 0≤(ji23) then (if (ji23)≤(x5_1.size:Int) then (spec_l2Parse.l0 k1 a0 x4_1 (x5_1.extract 0 ((ji23):Int).toNat) (x5_1.extract ((ji23):Int).toNat x5_1.size) (wrap64 (x7_1+1))) else (none)) else (none))=some (r1,r2):=by first|(rw [hji23] at H;exact H)|(simp only [hji23] at H ⊢;exact H)
          have hji23w:(IntKind.i64.wrap ((x5_1.size:Int) - 1))=ji23:=(i64_w _).trans hji23
          by_cases c24:0≤(ji23)
          ·rw [if_pos c24] at H
           have c24b0:=eq_true c24
           have c24b1:decide (0≤(ji23))=true:=decide_eq_true c24
           clear c24
           by_cases c25:(ji23)≤(x5_1.size:Int)
           ·rw [if_pos c25] at H
            have c25b0:=eq_true c25
            have c25b1:decide ((ji23)≤(x5_1.size:Int))=true:=decide_eq_true c25
            clear c25
            have c26b0:=eq_true (of_decide_eq_true (by first|(with_reducible assumption)|assumption):0≤(ji23))
            have c27b0:=eq_true (of_decide_eq_true (by first|(with_reducible assumption)|assumption):(ji23)≤(x5_1.size:Int))
            have H':=Zz.mk H
            clear H
            have p12:0≤(x7_1:Int):=of_decide_eq_true (by first|(with_reducible assumption)|assumption)
            have q12:x7_1<(a0.size:Int):=of_decide_eq_true (by first|(with_reducible assumption)|assumption)
            have hx12:=bt_at a0 x7_1
            replace p12:=eq_true p12
            replace q12:=eq_true q12
            have p17:0≤(x7_1:Int):=of_decide_eq_true (by first|(with_reducible assumption)|assumption)
            have q17:x7_1<(a0.size:Int):=of_decide_eq_true (by first|(with_reducible assumption)|assumption)
            have hx17:=bt_at a0 x7_1
            replace p17:=eq_true p17
            replace q17:=eq_true q17
            have p20:0≤(x7_1:Int):=of_decide_eq_true (by first|(with_reducible assumption)|assumption)
            have q20:x7_1<(a0.size:Int):=of_decide_eq_true (by first|(with_reducible assumption)|assumption)
            have hx20:=bt_at a0 x7_1
            replace p20:=eq_true p20
            replace q20:=eq_true q20
            go_wp2
            go_roundg k1
            case measure=>have:=HK1.out;omega
            case rel=>exact ⟨(x4_1),(x5_1.extract 0 ((ji23):Int).toNat),(x5_1.extract ((ji23):Int).toNat x5_1.size),(wrap64 (x7_1+1)),(by first|rfl|(simp;done)|(simp only [← hji23] <;> (first|rfl|simp))|(simp [*];done)),(by first|rfl|(simp;done)|(simp only [← hji23] <;> (first|rfl|simp))|(simp [*];done)),(by first|rfl|(simp;done)|(simp [*];done)),H',⟨by have:=HK1.out;omega⟩,⟨by (with_reducible repeat first|apply Kd.R_alloc|apply Kd.R_drewN|apply Kd.R_drew);exact HO_4.out⟩,⟨by (with_reducible repeat first|apply bN|apply bD|apply bA);exact BK494.out⟩,⟨by repeat (first|(with_reducible first|exact HB.out|apply qA|apply qN|apply q1_|refine qS ?_ GE494.out)|exact HB.out)⟩⟩
           ·rw [if_neg c25] at H
            exact absurd H (by simp)
          ·rw [if_neg c24] at H
           exact absurd H (by simp)
        ·rw [if_neg c21] at H
         have c21b0:((bt a0 x7_1) == 41)=false:=beq_eq_false_iff_ne.mpr c21
         have c21b1:((bt a0 x7_1) != 41)=true:=bne_iff_ne.mpr c21
         have c28b0:=eq_true (of_decide_eq_true (by first|(with_reducible assumption)|assumption):0≤x7_1)
         by_cases c29:x7_1≤(wrap64 (x7_1+1))
         ·rw [if_pos c29] at H
          have c29b0:=eq_true c29
          have c29b1:decide (x7_1≤(wrap64 (x7_1+1)))=true:=decide_eq_true c29
          by_cases c30:(wrap64 (x7_1+1))≤(a0.size:Int)
          ·rw [if_pos c30] at H
           have c30b0:=eq_true c30
           have c30b1:decide ((wrap64 (x7_1+1))≤(a0.size:Int))=true:=decide_eq_true c30
           have H':=Zz.mk H
           clear H
           have p12:0≤(x7_1:Int):=of_decide_eq_true (by first|(with_reducible assumption)|assumption)
           have q12:x7_1<(a0.size:Int):=of_decide_eq_true (by first|(with_reducible assumption)|assumption)
           have hx12:=bt_at a0 x7_1
           replace p12:=eq_true p12
           replace q12:=eq_true q12
           have p17:0≤(x7_1:Int):=of_decide_eq_true (by first|(with_reducible assumption)|assumption)
           have q17:x7_1<(a0.size:Int):=of_decide_eq_true (by first|(with_reducible assumption)|assumption)
           have hx17:=bt_at a0 x7_1
           replace p17:=eq_true p17
           replace q17:=eq_true q17
           have p20:0≤(x7_1:Int):=of_decide_eq_true (by first|(with_reducible assumption)|assumption)
           have q20:x7_1<(a0.size:Int):=of_decide_eq_true (by first|(with_reducible assumption)|assumption)
           have hx20:=bt_at a0 x7_1
           replace p20:=eq_true p20
           replace q20:=eq_true q20
           go_wp2
           go_roundg k1
           case measure=>have:=HK1.out;omega
           case rel=>exact ⟨(x4_1),(x5_1),(a0.extract (x7_1:Int).toNat ((wrap64 (x7_1+1)):Int).toNat),(wrap64 (x7_1+1)),(by first|rfl|(simp;done)|(simp [*];done)),(by first|rfl|(simp;done)|(simp [*];done)),(by first|rfl|(simp;done)|(simp [*];done)),H',⟨by have:=HK1.out;omega⟩,⟨by (with_reducible repeat first|apply Kd.R_alloc|apply Kd.R_drewN|apply Kd.R_drew);exact HO_4.out⟩,⟨by (with_reducible repeat first|apply bN|apply bD|apply bA);exact BK494.out⟩,⟨by repeat (first|(with_reducible first|exact HB.out|apply qA|apply qN|apply q1_|refine qS ?_ GE494.out)|exact HB.out)⟩⟩
          ·rw [if_neg c30] at H
           exact absurd H (by simp)
         ·rw [if_neg c29] at H
          exact absurd H (by simp)
     ·rw [if_neg c11] at H
      exact absurd H (by simp)
    ·rw [if_neg c10] at H
     have c10b0:decide (x7_1<(a0.size:Int))=false:=decide_eq_false c10
     clear c10
     replace H:=Option.bind_eq_some_iff.mp H
     obtain ⟨⟨t501,t504⟩,A310,H⟩:=H
     replace H:(if t504=true then ((spec_l2Of.f k1 t501).bind fun t505=>((spec_l2Text.f k1 t505 0).bind fun t509=>(if t509.toList=a0.toList then (some (t505,true)) else (some (([]:List (S62)),false))))) else (some (([]:List (S62)),false)))=some (r1,r2):=H
     have A31:=Zz.mk A310
     clear A310
     by_cases c32:t504=true
     ·subst c32
      have H1:((spec_l2Of.f k1 t501).bind fun t505=>((spec_l2Text.f k1 t505 0).bind fun t509=>(if t509.toList=a0.toList then (some (t505,true)) else (some (([]:List (S62)),false)))))=some (r1,r2):=by rw [if_pos rfl] at H;exact H
      clear H
      have H:=H1
      clear H1
      replace H:=Option.bind_eq_some_iff.mp H
      obtain ⟨t505,A330,H⟩:=H
      replace H:((spec_l2Text.f k1 t505 0).bind fun t509=>(if t509.toList=a0.toList then (some (t505,true)) else (some (([]:List (S62)),false))))=some (r1,r2):=H
      have A33:=Zz.mk A330
      clear A330
      replace H:=Option.bind_eq_some_iff.mp H
      obtain ⟨t509,A340,H⟩:=H
      replace H:(if t509.toList=a0.toList then (some (t505,true)) else (some (([]:List (S62)),false)))=some (r1,r2):=H
      have A34:=Zz.mk A340
      clear A340
      by_cases c35:t509.toList=a0.toList
      ·rw [if_pos c35] at H
       have c35b0:(t509.toList == a0.toList)=true:=beq_iff_eq.mpr c35
       have c35b1:(t509.toList != a0.toList)=false:=bne_eq_false_iff_eq.mpr c35
       clear c35
       simp only [Option.some.injEq,Prod.mk.injEq] at H
       obtain ⟨rfl,rfl⟩:=H
       obtain ⟨Ao36,co36,eo36⟩:=Kd.R_slice HO_4.out
       subst eo36
       go_wp2_with (first|((with_reducible refine gate_callee (f:=32) rfl ?_);refine goesL_ (some 65) rfl rfl Try.func32 (by kernel_rfl) rfl #[.slice Ao36 x4_1.length co36] rfl (by (try simp only [List.map_toArray,List.map_cons,List.map_nil]);first|done|rfl|(simp only [List.length_drop,List.length_take];rfl)) ?_;(with_reducible refine (spec_l2Set.calls k1 _ _ x4_1 t501 true _ ?side1 ?side2 A31.out).mono ?_);(case side1=>repeat (first|exact (Kd.R_reads' HO_4.out).2.2|(with_reducible refine Kd.C_alloc ?_ _)|(with_reducible refine Kd.C_drewN ?_ _)|(with_reducible refine Kd.C_drew ?_)));(case side2=>exact (Kd.R_reads' HO_4.out).2.1);rintro e w37 ⟨v502,rfl,ho0,hb⟩;refine ⟨_,rfl,?_⟩;have n0_:=Zz.mk (Kd.R_below (by (with_reducible repeat first|apply Kd.R_alloc|apply Kd.R_drewN|apply Kd.R_drew);exact HO_4.out) hb);have n1_:=Zz.mk (Kd.V_lower (Kd.V_mono (ok':=fun k_=>some k_ ≠ (.slice Ao36 x4_1.length co36:Value).ownBlock∧k_ ≠ gb494) ho0 (fun k_ hk_=>⟨(Kd.fresh' (Kd.R_lt (by (with_reducible repeat first|apply Kd.R_alloc|apply Kd.R_drewN|apply Kd.R_drew);exact HO_4.out)) k_ hk_),(Kd.freshB (g:=gb494) (o:=.cells #[.slice none 0 0] 24 (0,0)) (by (with_reducible repeat first|apply bN|apply bD|apply bA);exact BK494.out) k_ hk_)⟩)) (qZ (by repeat (first|(with_reducible first|exact HB.out|apply qA|apply qN|apply q1_|refine qS ?_ GE494.out)|exact HB.out))));have n2_:=Zz.mk (bB (g:=gb494) (o:=.cells #[.slice none 0 0] 24 (0,0)) (by (with_reducible repeat first|apply bN|apply bD|apply bA);exact BK494.out) hb);have n3_:=Zz.mk (qP (by repeat (first|(with_reducible first|exact HB.out|apply qA|apply qN|apply q1_|refine qS ?_ GE494.out)|exact HB.out)) hb);clear HO_4;clear BK494;clear HB;have HO_4:=n0_;have HO503:=n1_;have BK494:=n2_;have HB:=n3_;clear n0_ n1_ n2_ n3_;(try clear hb);(try clear hb2);(try clear hk);(try clear hi);(try clear ho0);obtain ⟨Ao38,co38,eo38⟩:=Kd.V_slice HO503.out;subst eo38)|((with_reducible refine gate_callee (f:=33) rfl ?_);refine goesL_ (some 72) rfl rfl Try.func33 (by kernel_rfl) rfl #[.slice Ao38 t501.length co38] rfl (by (try simp only [List.map_toArray,List.map_cons,List.map_nil]);first|done|rfl|(simp only [List.length_drop,List.length_take];rfl)) ?_;(with_reducible refine (spec_l2Of.calls k1 _ _ t501 t505 _ ?side1 ?side2 A33.out).mono ?_);(case side1=>repeat (first|exact (Kd.V_reads' HO503.out).2.2|(with_reducible refine Kd.C_alloc ?_ _)|(with_reducible refine Kd.C_drewN ?_ _)|(with_reducible refine Kd.C_drew ?_)));(case side2=>exact (Kd.V_reads' HO503.out).2.1);rintro e w39 ⟨v506,rfl,ho0,hb⟩;refine ⟨_,rfl,?_⟩;have n0_:=Zz.mk (Kd.R_below (by (with_reducible repeat first|apply Kd.R_alloc|apply Kd.R_drewN|apply Kd.R_drew);exact HO_4.out) hb);have n1_:=Zz.mk (Kd.V_elder' (by (with_reducible repeat (first|apply Kd.V_alloc|apply Kd.V_drewN|apply Kd.V_drew));exact HO503.out) (Kd.R_base ho0) hb);have n2_:=Zz.mk (Kd.R_lower ho0 (qZ (by repeat (first|(with_reducible first|exact HB.out|apply qA|apply qN|apply q1_|refine qS ?_ GE494.out)|exact HB.out))));have n3_:=Zz.mk (bB (g:=gb494) (o:=.cells #[.slice none 0 0] 24 (0,0)) (by (with_reducible repeat first|apply bN|apply bD|apply bA);exact BK494.out) hb);have n4_:=Zz.mk (qP (by repeat (first|(with_reducible first|exact HB.out|apply qA|apply qN|apply q1_|refine qS ?_ GE494.out)|exact HB.out)) hb);clear HO_4;clear HO503;clear BK494;clear HB;have HO_4:=n0_;have HO503:=n1_;have HO507:=n2_;have BK494:=n3_;have HB:=n4_;clear n0_ n1_ n2_ n3_ n4_;(try clear hb);(try clear hb2);(try clear hk);(try clear hi);(try clear ho0))|((with_reducible refine gate_dst (N:=10) rfl ?_);refine box_event ?hg (N:=10) ?hd (cs:=#[.slice none 0 0]) (t:=24) ?hr ?_;(case hd=>rfl);(case hg=>rfl);(case hr=>first|(go_simp;done)|(go_simp;rfl));intro gb508 hg w40 hbox hb;have n0_:=Zz.mk (Kd.R_below (by (with_reducible repeat first|apply Kd.R_alloc|apply Kd.R_drewN|apply Kd.R_drew);exact HO_4.out) hb);have n1_:=Zz.mk (Kd.V_below (Kd.V_elderB (by (with_reducible repeat (first|apply Kd.V_alloc|apply Kd.V_drewN|apply Kd.V_drew));exact HO503.out) gb508 (Nat.le_of_eq hg.symm)) hb);have n2_:=Zz.mk (Kd.R_below (by (with_reducible repeat first|apply Kd.R_alloc|apply Kd.R_drewN|apply Kd.R_drew);exact HO507.out) hb);have n3_:=Zz.mk (bB (g:=gb494) (o:=.cells #[.slice none 0 0] 24 (0,0)) (by (with_reducible repeat first|apply bN|apply bD|apply bA);exact BK494.out) hb);have n4_:=Zz.mk (qP (by repeat (first|(with_reducible first|exact HB.out|apply qA|apply qN|apply q1_|refine qS ?_ GE494.out)|exact HB.out)) hb);have n5_:=Zz.mk (hbox);have n6_:=Zz.mk ((by rw [hg];exact (qZ (by repeat (first|(with_reducible first|exact HB.out|apply qA|apply qN|apply q1_|refine qS ?_ GE494.out)|exact HB.out))):w.heap.size≤gb508));have n7_:=Zz.mk ((by rw [hg];exact (qZ (by repeat (first|(with_reducible first|exact HB.out|apply qA|apply qN|apply q1_|refine qS ?_ GE494.out)|exact HB.out))):w.heap.size≤gb508));have n8_:=Zz.mk ((by rw [hg];exact Nat.ne_of_lt (blk_lt (g:=gb494) (o:=.cells #[.slice none 0 0] 24 (0,0)) (by (with_reducible repeat first|apply bN|apply bD|apply bA);exact BK494.out)):gb494 ≠ gb508));have n9_:=Zz.mk ((by rw [hg];exact Nat.ne_of_gt (blk_lt (g:=gb494) (o:=.cells #[.slice none 0 0] 24 (0,0)) (by (with_reducible repeat first|apply bN|apply bD|apply bA);exact BK494.out)):gb508 ≠ gb494));clear HO_4;clear HO503;clear HO507;clear BK494;clear HB;have HO_4:=n0_;have HO503:=n1_;have HO507:=n2_;have BK494:=n3_;have HB:=n4_;have BK508:=n5_;have GW508:=n6_;have GE508:=n7_;have NB494_508:=n8_;have NB508_494:=n9_;clear n0_ n1_ n2_ n3_ n4_ n5_ n6_ n7_ n8_ n9_;clear hb hbox hg;obtain ⟨Ao41,co41,eo41⟩:=Kd.R_slice HO507.out;subst eo41;have hnb42:=NB508_494.out;have hnc42:=NB494_508.out;have hcz43_0:w40.cell? ⟨gb508,0,none⟩=some (.slice none 0 0):=(bC BK508.out 0).trans rfl;have hfz43_0:=bF BK508.out 0)|((with_reducible refine gate_callee (f:=34) rfl ?_);refine goesL_ (some 74) rfl rfl Try.func34 (by kernel_rfl) rfl #[.agg #[.slice Ao41 t505.length co41],.int .i64 0] rfl (by (try simp only [List.map_toArray,List.map_cons,List.map_nil]);first|done|rfl|(simp only [List.length_drop,List.length_take];rfl)) ?_;(with_reducible refine (spec_l2Text.calls k1 _ _ t505 0 t509 _ ?side1 ?side2 A34.out).mono ?_);(case side1=>refine (Kd.R_reads' (e:=62) (base:=w.heap.size) (ok:=fun k_=>True) (n:=t505.length) (c:=co41) ?_).2.2;exact (by (with_reducible repeat first|apply Kd.R_alloc|apply Kd.R_drewN|apply Kd.R_drew);exact (Kd.R_mono (R_same_ (Kd.R_far (p:=⟨gb508,0,none⟩) (Kd.R_types HO507.out BK508.out (by decide)) (fun _ hk=>hk.2) (.slice Ao41 t505.length co41)) rfl) (fun _ h_=>h_.1))));(case side2=>exact (Kd.R_reads' HO507.out).2.1);rintro e w44 ⟨rfl,hb⟩;refine ⟨_,rfl,?_⟩;have n0_:=Zz.mk (Kd.R_below (by (with_reducible repeat first|apply Kd.R_alloc|apply Kd.R_drewN|apply Kd.R_drew);exact (Kd.R_mono (R_same_ (Kd.R_far (p:=⟨gb508,0,none⟩) (Kd.R_types HO_4.out BK508.out (by decide)) (fun _ hk=>hk.2) (.slice Ao41 t505.length co41)) rfl) (fun _ h_=>h_.1))) hb);have n1_:=Zz.mk (Kd.V_below (by (with_reducible repeat (first|apply Kd.V_alloc|apply Kd.V_drewN|apply Kd.V_drew));exact (Kd.V_mono (V_same_ (Kd.V_far (p:=⟨gb508,0,none⟩) (Kd.V_mono HO503.out (fun k_ hk=>(⟨hk,hk.2⟩:_∧k_ ≠ gb508))) (fun _ hk=>hk.2) (.slice Ao41 t505.length co41)) rfl) (fun _ h_=>h_.1))) hb);have n2_:=Zz.mk (Kd.R_below (by (with_reducible repeat first|apply Kd.R_alloc|apply Kd.R_drewN|apply Kd.R_drew);exact (Kd.R_mono (R_same_ (Kd.R_far (p:=⟨gb508,0,none⟩) (Kd.R_types HO507.out BK508.out (by decide)) (fun _ hk=>hk.2) (.slice Ao41 t505.length co41)) rfl) (fun _ h_=>h_.1))) hb);have n3_:=Zz.mk (bB (g:=gb494) (o:=.cells #[.slice none 0 0] 24 (0,0)) (by (with_reducible repeat first|apply bN|apply bD|apply bA);refine blk_far ?_ NB494_508.out _;(with_reducible repeat first|apply bN|apply bD|apply bA);exact BK494.out) hb);have n4_:=Zz.mk (bB (g:=gb508) (o:=.cells #[.slice Ao41 t505.length co41] 24 (0,0)) (by (with_reducible repeat first|apply bN|apply bD|apply bA);refine blk_put (cs:=#[.slice none 0 0]) ?_ 0 _ rfl;(with_reducible repeat first|apply bN|apply bD|apply bA);exact BK508.out) hb);have n5_:=Zz.mk (qP (by repeat (first|(with_reducible first|exact HB.out|apply qA|apply qN|apply q1_|refine qS ?_ GE494.out|refine qS ?_ GE508.out)|exact HB.out)) hb);clear HO_4;clear HO503;clear HO507;clear BK494;clear BK508;clear HB;have HO_4:=n0_;have HO503:=n1_;have HO507:=n2_;have BK494:=n3_;have BK508:=n4_;have HB:=n5_;clear n0_ n1_ n2_ n3_ n4_ n5_;(try clear hb);(try clear hb2);(try clear hk);(try clear hi);have hcz45_0:w44.cell? ⟨gb508,0,none⟩=some (.slice Ao41 t505.length co41):=(bC BK508.out 0).trans rfl;have hfz45_0:=bF BK508.out 0;have hcz46_0:w44.cell? ⟨gb494,0,none⟩=some (.slice none 0 0):=(bC BK494.out 0).trans rfl;have hfz46_0:=bF BK494.out 0))
       refine bodyPost_ret (results_ct rfl _ _ gb494 24 #[.slice Ao41 t505.length co41] (0,0) _ rfl (by (with_reducible repeat first|apply bN|apply bD|apply bA);refine blk_put (cs:=#[.slice none 0 0]) ?_ 0 _ rfl;(with_reducible repeat first|apply bN|apply bD|apply bA);exact BK494.out) Try.underlying24 rfl (by kernel_rfl)) rfl ?_
       exact ⟨_,by first|rfl|(simp [errW_none,errW_some] <;> rfl)|(simp [*,errW_none,errW_some] <;> rfl),by (with_reducible repeat first|apply Kd.R_alloc|apply Kd.R_drewN|apply Kd.R_drew);exact Kd.R_mono (R_same_ (Kd.R_far (p:=⟨gb494,0,none⟩) (Kd.R_types HO507.out BK494.out (by decide)) (fun _ hk=>hk.2) (.slice Ao41 t505.length co41)) rfl) (fun _ hk=>trivial),by repeat (first|(with_reducible first|exact HB.out|apply qA|apply qN|apply q1_|refine qS ?_ GE494.out|refine qS ?_ GE508.out)|exact HB.out)⟩
      ·rw [if_neg c35] at H
       have c35b0:(t509.toList == a0.toList)=false:=beq_eq_false_iff_ne.mpr c35
       have c35b1:(t509.toList != a0.toList)=true:=bne_iff_ne.mpr c35
       simp only [Option.some.injEq,Prod.mk.injEq] at H
       obtain ⟨rfl,rfl⟩:=H
       obtain ⟨Ao47,co47,eo47⟩:=Kd.R_slice HO_4.out
       subst eo47
       go_wp2_with (first|((with_reducible refine gate_callee (f:=32) rfl ?_);refine goesL_ (some 65) rfl rfl Try.func32 (by kernel_rfl) rfl #[.slice Ao47 x4_1.length co47] rfl (by (try simp only [List.map_toArray,List.map_cons,List.map_nil]);first|done|rfl|(simp only [List.length_drop,List.length_take];rfl)) ?_;(with_reducible refine (spec_l2Set.calls k1 _ _ x4_1 t501 true _ ?side1 ?side2 A31.out).mono ?_);(case side1=>repeat (first|exact (Kd.R_reads' HO_4.out).2.2|(with_reducible refine Kd.C_alloc ?_ _)|(with_reducible refine Kd.C_drewN ?_ _)|(with_reducible refine Kd.C_drew ?_)));(case side2=>exact (Kd.R_reads' HO_4.out).2.1);rintro e w48 ⟨v502,rfl,ho0,hb⟩;refine ⟨_,rfl,?_⟩;have n0_:=Zz.mk (Kd.R_below (by (with_reducible repeat first|apply Kd.R_alloc|apply Kd.R_drewN|apply Kd.R_drew);exact HO_4.out) hb);have n1_:=Zz.mk (Kd.V_lower (Kd.V_mono (ok':=fun k_=>some k_ ≠ (.slice Ao47 x4_1.length co47:Value).ownBlock∧k_ ≠ gb494) ho0 (fun k_ hk_=>⟨(Kd.fresh' (Kd.R_lt (by (with_reducible repeat first|apply Kd.R_alloc|apply Kd.R_drewN|apply Kd.R_drew);exact HO_4.out)) k_ hk_),(Kd.freshB (g:=gb494) (o:=.cells #[.slice none 0 0] 24 (0,0)) (by (with_reducible repeat first|apply bN|apply bD|apply bA);exact BK494.out) k_ hk_)⟩)) (qZ (by repeat (first|(with_reducible first|exact HB.out|apply qA|apply qN|apply q1_|refine qS ?_ GE494.out)|exact HB.out))));have n2_:=Zz.mk (bB (g:=gb494) (o:=.cells #[.slice none 0 0] 24 (0,0)) (by (with_reducible repeat first|apply bN|apply bD|apply bA);exact BK494.out) hb);have n3_:=Zz.mk (qP (by repeat (first|(with_reducible first|exact HB.out|apply qA|apply qN|apply q1_|refine qS ?_ GE494.out)|exact HB.out)) hb);clear HO_4;clear BK494;clear HB;have HO_4:=n0_;have HO503:=n1_;have BK494:=n2_;have HB:=n3_;clear n0_ n1_ n2_ n3_;(try clear hb);(try clear hb2);(try clear hk);(try clear hi);(try clear ho0);obtain ⟨Ao49,co49,eo49⟩:=Kd.V_slice HO503.out;subst eo49)|((with_reducible refine gate_callee (f:=33) rfl ?_);refine goesL_ (some 72) rfl rfl Try.func33 (by kernel_rfl) rfl #[.slice Ao49 t501.length co49] rfl (by (try simp only [List.map_toArray,List.map_cons,List.map_nil]);first|done|rfl|(simp only [List.length_drop,List.length_take];rfl)) ?_;(with_reducible refine (spec_l2Of.calls k1 _ _ t501 t505 _ ?side1 ?side2 A33.out).mono ?_);(case side1=>repeat (first|exact (Kd.V_reads' HO503.out).2.2|(with_reducible refine Kd.C_alloc ?_ _)|(with_reducible refine Kd.C_drewN ?_ _)|(with_reducible refine Kd.C_drew ?_)));(case side2=>exact (Kd.V_reads' HO503.out).2.1);rintro e w50 ⟨v506,rfl,ho0,hb⟩;refine ⟨_,rfl,?_⟩;have n0_:=Zz.mk (Kd.R_below (by (with_reducible repeat first|apply Kd.R_alloc|apply Kd.R_drewN|apply Kd.R_drew);exact HO_4.out) hb);have n1_:=Zz.mk (Kd.V_elder' (by (with_reducible repeat (first|apply Kd.V_alloc|apply Kd.V_drewN|apply Kd.V_drew));exact HO503.out) (Kd.R_base ho0) hb);have n2_:=Zz.mk (Kd.R_lower ho0 (qZ (by repeat (first|(with_reducible first|exact HB.out|apply qA|apply qN|apply q1_|refine qS ?_ GE494.out)|exact HB.out))));have n3_:=Zz.mk (bB (g:=gb494) (o:=.cells #[.slice none 0 0] 24 (0,0)) (by (with_reducible repeat first|apply bN|apply bD|apply bA);exact BK494.out) hb);have n4_:=Zz.mk (qP (by repeat (first|(with_reducible first|exact HB.out|apply qA|apply qN|apply q1_|refine qS ?_ GE494.out)|exact HB.out)) hb);clear HO_4;clear HO503;clear BK494;clear HB;have HO_4:=n0_;have HO503:=n1_;have HO507:=n2_;have BK494:=n3_;have HB:=n4_;clear n0_ n1_ n2_ n3_ n4_;(try clear hb);(try clear hb2);(try clear hk);(try clear hi);(try clear ho0))|((with_reducible refine gate_dst (N:=10) rfl ?_);refine box_event ?hg (N:=10) ?hd (cs:=#[.slice none 0 0]) (t:=24) ?hr ?_;(case hd=>rfl);(case hg=>rfl);(case hr=>first|(go_simp;done)|(go_simp;rfl));intro gb508 hg w51 hbox hb;have n0_:=Zz.mk (Kd.R_below (by (with_reducible repeat first|apply Kd.R_alloc|apply Kd.R_drewN|apply Kd.R_drew);exact HO_4.out) hb);have n1_:=Zz.mk (Kd.V_below (Kd.V_elderB (by (with_reducible repeat (first|apply Kd.V_alloc|apply Kd.V_drewN|apply Kd.V_drew));exact HO503.out) gb508 (Nat.le_of_eq hg.symm)) hb);have n2_:=Zz.mk (Kd.R_below (by (with_reducible repeat first|apply Kd.R_alloc|apply Kd.R_drewN|apply Kd.R_drew);exact HO507.out) hb);have n3_:=Zz.mk (bB (g:=gb494) (o:=.cells #[.slice none 0 0] 24 (0,0)) (by (with_reducible repeat first|apply bN|apply bD|apply bA);exact BK494.out) hb);have n4_:=Zz.mk (qP (by repeat (first|(with_reducible first|exact HB.out|apply qA|apply qN|apply q1_|refine qS ?_ GE494.out)|exact HB.out)) hb);have n5_:=Zz.mk (hbox);have n6_:=Zz.mk ((by rw [hg];exact (qZ (by repeat (first|(with_reducible first|exact HB.out|apply qA|apply qN|apply q1_|refine qS ?_ GE494.out)|exact HB.out))):w.heap.size≤gb508));have n7_:=Zz.mk ((by rw [hg];exact (qZ (by repeat (first|(with_reducible first|exact HB.out|apply qA|apply qN|apply q1_|refine qS ?_ GE494.out)|exact HB.out))):w.heap.size≤gb508));have n8_:=Zz.mk ((by rw [hg];exact Nat.ne_of_lt (blk_lt (g:=gb494) (o:=.cells #[.slice none 0 0] 24 (0,0)) (by (with_reducible repeat first|apply bN|apply bD|apply bA);exact BK494.out)):gb494 ≠ gb508));have n9_:=Zz.mk ((by rw [hg];exact Nat.ne_of_gt (blk_lt (g:=gb494) (o:=.cells #[.slice none 0 0] 24 (0,0)) (by (with_reducible repeat first|apply bN|apply bD|apply bA);exact BK494.out)):gb508 ≠ gb494));clear HO_4;clear HO503;clear HO507;clear BK494;clear HB;have HO_4:=n0_;have HO503:=n1_;have HO507:=n2_;have BK494:=n3_;have HB:=n4_;have BK508:=n5_;have GW508:=n6_;have GE508:=n7_;have NB494_508:=n8_;have NB508_494:=n9_;clear n0_ n1_ n2_ n3_ n4_ n5_ n6_ n7_ n8_ n9_;clear hb hbox hg;obtain ⟨Ao52,co52,eo52⟩:=Kd.R_slice HO507.out;subst eo52;have hnb53:=NB508_494.out;have hnc53:=NB494_508.out;have hcz54_0:w51.cell? ⟨gb508,0,none⟩=some (.slice none 0 0):=(bC BK508.out 0).trans rfl;have hfz54_0:=bF BK508.out 0)|((with_reducible refine gate_callee (f:=34) rfl ?_);refine goesL_ (some 74) rfl rfl Try.func34 (by kernel_rfl) rfl #[.agg #[.slice Ao52 t505.length co52],.int .i64 0] rfl (by (try simp only [List.map_toArray,List.map_cons,List.map_nil]);first|done|rfl|(simp only [List.length_drop,List.length_take];rfl)) ?_;(with_reducible refine (spec_l2Text.calls k1 _ _ t505 0 t509 _ ?side1 ?side2 A34.out).mono ?_);(case side1=>refine (Kd.R_reads' (e:=62) (base:=w.heap.size) (ok:=fun k_=>True) (n:=t505.length) (c:=co52) ?_).2.2;exact (by (with_reducible repeat first|apply Kd.R_alloc|apply Kd.R_drewN|apply Kd.R_drew);exact (Kd.R_mono (R_same_ (Kd.R_far (p:=⟨gb508,0,none⟩) (Kd.R_types HO507.out BK508.out (by decide)) (fun _ hk=>hk.2) (.slice Ao52 t505.length co52)) rfl) (fun _ h_=>h_.1))));(case side2=>exact (Kd.R_reads' HO507.out).2.1);rintro e w55 ⟨rfl,hb⟩;refine ⟨_,rfl,?_⟩;have n0_:=Zz.mk (Kd.R_below (by (with_reducible repeat first|apply Kd.R_alloc|apply Kd.R_drewN|apply Kd.R_drew);exact (Kd.R_mono (R_same_ (Kd.R_far (p:=⟨gb508,0,none⟩) (Kd.R_types HO_4.out BK508.out (by decide)) (fun _ hk=>hk.2) (.slice Ao52 t505.length co52)) rfl) (fun _ h_=>h_.1))) hb);have n1_:=Zz.mk (Kd.V_below (by (with_reducible repeat (first|apply Kd.V_alloc|apply Kd.V_drewN|apply Kd.V_drew));exact (Kd.V_mono (V_same_ (Kd.V_far (p:=⟨gb508,0,none⟩) (Kd.V_mono HO503.out (fun k_ hk=>(⟨hk,hk.2⟩:_∧k_ ≠ gb508))) (fun _ hk=>hk.2) (.slice Ao52 t505.length co52)) rfl) (fun _ h_=>h_.1))) hb);have n2_:=Zz.mk (Kd.R_below (by (with_reducible repeat first|apply Kd.R_alloc|apply Kd.R_drewN|apply Kd.R_drew);exact (Kd.R_mono (R_same_ (Kd.R_far (p:=⟨gb508,0,none⟩) (Kd.R_types HO507.out BK508.out (by decide)) (fun _ hk=>hk.2) (.slice Ao52 t505.length co52)) rfl) (fun _ h_=>h_.1))) hb);have n3_:=Zz.mk (bB (g:=gb494) (o:=.cells #[.slice none 0 0] 24 (0,0)) (by (with_reducible repeat first|apply bN|apply bD|apply bA);refine blk_far ?_ NB494_508.out _;(with_reducible repeat first|apply bN|apply bD|apply bA);exact BK494.out) hb);have n4_:=Zz.mk (bB (g:=gb508) (o:=.cells #[.slice Ao52 t505.length co52] 24 (0,0)) (by (with_reducible repeat first|apply bN|apply bD|apply bA);refine blk_put (cs:=#[.slice none 0 0]) ?_ 0 _ rfl;(with_reducible repeat first|apply bN|apply bD|apply bA);exact BK508.out) hb);have n5_:=Zz.mk (qP (by repeat (first|(with_reducible first|exact HB.out|apply qA|apply qN|apply q1_|refine qS ?_ GE494.out|refine qS ?_ GE508.out)|exact HB.out)) hb);clear HO_4;clear HO503;clear HO507;clear BK494;clear BK508;clear HB;have HO_4:=n0_;have HO503:=n1_;have HO507:=n2_;have BK494:=n3_;have BK508:=n4_;have HB:=n5_;clear n0_ n1_ n2_ n3_ n4_ n5_;(try clear hb);(try clear hb2);(try clear hk);(try clear hi);have hcz56_0:w55.cell? ⟨gb494,0,none⟩=some (.slice none 0 0):=(bC BK494.out 0).trans rfl;have hfz56_0:=bF BK494.out 0))
       refine bodyPost_ret (results_ct rfl _ _ gb494 24 #[.slice none 0 0] (0,0) _ rfl (by (with_reducible repeat first|apply bN|apply bD|apply bA);refine blk_put (cs:=#[.slice none 0 0]) ?_ 0 _ rfl;(with_reducible repeat first|apply bN|apply bD|apply bA);exact BK494.out) Try.underlying24 rfl (by kernel_rfl)) rfl ?_
       exact ⟨_,by first|rfl|(simp [errW_none,errW_some] <;> rfl)|(simp [*,errW_none,errW_some] <;> rfl),by first|exact Kd.R_nil _ _ _ _ _|exact Kd.N_nil _ _ _ _ _|exact Kd.V_nil _ _ _ _ _|exact Kd.Q_nil _ _ _ _ _|exact Kd.S_nil _ _ _ _ _,by repeat (first|(with_reducible first|exact HB.out|apply qA|apply qN|apply q1_|refine qS ?_ GE494.out|refine qS ?_ GE508.out)|exact HB.out)⟩
     ·replace c32:=Bool.eq_false_iff.mpr c32
      subst c32
      have H1:(some (([]:List (S62)),false))=some (r1,r2):=by rw [if_neg (show ¬ (false=true) by decide)] at H;exact H
      clear H
      have H:=H1
      clear H1
      simp only [Option.some.injEq,Prod.mk.injEq] at H
      obtain ⟨rfl,rfl⟩:=H
      obtain ⟨Ao57,co57,eo57⟩:=Kd.R_slice HO_4.out
      subst eo57
      go_wp2_with (first|((with_reducible refine gate_callee (f:=32) rfl ?_);refine goesL_ (some 65) rfl rfl Try.func32 (by kernel_rfl) rfl #[.slice Ao57 x4_1.length co57] rfl (by (try simp only [List.map_toArray,List.map_cons,List.map_nil]);first|done|rfl|(simp only [List.length_drop,List.length_take];rfl)) ?_;(with_reducible refine (spec_l2Set.calls k1 _ _ x4_1 t501 false _ ?side1 ?side2 A31.out).mono ?_);(case side1=>repeat (first|exact (Kd.R_reads' HO_4.out).2.2|(with_reducible refine Kd.C_alloc ?_ _)|(with_reducible refine Kd.C_drewN ?_ _)|(with_reducible refine Kd.C_drew ?_)));(case side2=>exact (Kd.R_reads' HO_4.out).2.1);rintro e w58 ⟨v502,rfl,ho0,hb⟩;refine ⟨_,rfl,?_⟩;have n0_:=Zz.mk (Kd.R_below (by (with_reducible repeat first|apply Kd.R_alloc|apply Kd.R_drewN|apply Kd.R_drew);exact HO_4.out) hb);have n1_:=Zz.mk (Kd.V_lower (Kd.V_mono (ok':=fun k_=>some k_ ≠ (.slice Ao57 x4_1.length co57:Value).ownBlock∧k_ ≠ gb494) ho0 (fun k_ hk_=>⟨(Kd.fresh' (Kd.R_lt (by (with_reducible repeat first|apply Kd.R_alloc|apply Kd.R_drewN|apply Kd.R_drew);exact HO_4.out)) k_ hk_),(Kd.freshB (g:=gb494) (o:=.cells #[.slice none 0 0] 24 (0,0)) (by (with_reducible repeat first|apply bN|apply bD|apply bA);exact BK494.out) k_ hk_)⟩)) (qZ (by repeat (first|(with_reducible first|exact HB.out|apply qA|apply qN|apply q1_|refine qS ?_ GE494.out)|exact HB.out))));have n2_:=Zz.mk (bB (g:=gb494) (o:=.cells #[.slice none 0 0] 24 (0,0)) (by (with_reducible repeat first|apply bN|apply bD|apply bA);exact BK494.out) hb);have n3_:=Zz.mk (qP (by repeat (first|(with_reducible first|exact HB.out|apply qA|apply qN|apply q1_|refine qS ?_ GE494.out)|exact HB.out)) hb);clear HO_4;clear BK494;clear HB;have HO_4:=n0_;have HO503:=n1_;have BK494:=n2_;have HB:=n3_;clear n0_ n1_ n2_ n3_;(try clear hb);(try clear hb2);(try clear hk);(try clear hi);(try clear ho0);have hcz59_0:w58.cell? ⟨gb494,0,none⟩=some (.slice none 0 0):=(bC BK494.out 0).trans rfl;have hfz59_0:=bF BK494.out 0))
      refine bodyPost_ret (results_ct rfl _ _ gb494 24 #[.slice none 0 0] (0,0) _ rfl (by (with_reducible repeat first|apply bN|apply bD|apply bA);refine blk_put (cs:=#[.slice none 0 0]) ?_ 0 _ rfl;(with_reducible repeat first|apply bN|apply bD|apply bA);exact BK494.out) Try.underlying24 rfl (by kernel_rfl)) rfl ?_
      exact ⟨_,by first|rfl|(simp [errW_none,errW_some] <;> rfl)|(simp [*,errW_none,errW_some] <;> rfl),by first|exact Kd.R_nil _ _ _ _ _|exact Kd.N_nil _ _ _ _ _|exact Kd.V_nil _ _ _ _ _|exact Kd.Q_nil _ _ _ _ _|exact Kd.S_nil _ _ _ _ _,by repeat (first|(with_reducible first|exact HB.out|apply qA|apply qN|apply q1_|refine qS ?_ GE494.out)|exact HB.out)⟩
def spec_ParseTrie.f (k:Nat) (a0:ByteArray):Option ((List (S62)) × Bool):=(spec_l2Parse.f k a0).bind fun bt511=>(some (bt511.1,bt511.2))
set_option maxHeartbeats 8000000 in
set_option maxRecDepth 100000 in
theorem spec_ParseTrie.calls (k:Nat) (a0:ByteArray) (r1:List (S62)) (r2:Bool) (w:World) (h:spec_ParseTrie.f k a0=some (r1,r2)) :
  Calls Try.prog 5 #[.string a0] w fun e w'=>∃ v0_:Value,e=.returned (.tuple #[.agg #[v0_],.bool r2])∧Kd.R k62 62 w' w.heap.size (fun _=>True) v0_ r1∧Below w.heap.size w w':=by
 have hu24:=Try.underlying24
 have HB:=Zz.mk (Below.refl w.heap.size w)
 have H:((spec_l2Parse.f k a0).bind fun bt511=>(some (bt511.1,bt511.2)))=some (r1,r2):=h
 clear h
 replace H:=Option.bind_eq_some_iff.mp H
 obtain ⟨⟨t511,t514⟩,A20,H⟩:=H
 replace H:(some (t511,t514))=some (r1,r2):=H
 have A2:=Zz.mk A20
 clear A20
 simp only [Option.some.injEq,Prod.mk.injEq] at H
 obtain ⟨rfl,rfl⟩:=H
 go_enter Try.func5,Try.ntmps5
 go_wp2_with (first|((with_reducible refine gate_dst (N:=2) rfl ?_);refine box_event ?hg (N:=2) ?hd (cs:=#[.slice none 0 0]) (t:=24) ?hr ?_;(case hd=>rfl);(case hg=>rfl);(case hr=>first|(go_simp;done)|(go_simp;rfl));intro gb510 hg w3 hbox hb;have n0_:=Zz.mk (qP (by repeat (first|(with_reducible first|exact HB.out|apply qA|apply qN|apply q1_)|exact HB.out)) hb);have n1_:=Zz.mk (hbox);have n2_:=Zz.mk ((by rw [hg];exact (qZ (by repeat (first|(with_reducible first|exact HB.out|apply qA|apply qN|apply q1_)|exact HB.out))):w.heap.size≤gb510));have n3_:=Zz.mk ((by rw [hg];exact (qZ (by repeat (first|(with_reducible first|exact HB.out|apply qA|apply qN|apply q1_)|exact HB.out))):w.heap.size≤gb510));clear HB;have HB:=n0_;have BK510:=n1_;have GW510:=n2_;have GE510:=n3_;clear n0_ n1_ n2_ n3_;clear hb hbox hg)|((with_reducible refine gate_callee (f:=17) rfl ?_);refine goesL_ (some 5) rfl rfl Try.func17 (by kernel_rfl) rfl #[.string a0] rfl (by (try simp only [List.map_toArray,List.map_cons,List.map_nil]);first|done|rfl|(simp only [List.length_drop,List.length_take];rfl)) ?_;(with_reducible refine (spec_l2Parse.calls k a0 t511 t514 _ A2.out).mono ?_);rintro e w4 ⟨v512,rfl,ho0,hb⟩;refine ⟨_,rfl,?_⟩;have n0_:=Zz.mk (Kd.R_lower ho0 (qZ (by repeat (first|(with_reducible first|exact HB.out|apply qA|apply qN|apply q1_|refine qS ?_ GE510.out)|exact HB.out))));have n1_:=Zz.mk (bB (g:=gb510) (o:=.cells #[.slice none 0 0] 24 (0,0)) (by (with_reducible repeat first|apply bN|apply bD|apply bA);exact BK510.out) hb);have n2_:=Zz.mk (qP (by repeat (first|(with_reducible first|exact HB.out|apply qA|apply qN|apply q1_|refine qS ?_ GE510.out)|exact HB.out)) hb);clear BK510;clear HB;have HO513:=n0_;have BK510:=n1_;have HB:=n2_;clear n0_ n1_ n2_;(try clear hb);(try clear hb2);(try clear hk);(try clear hi);(try clear ho0);obtain ⟨Ao5,co5,eo5⟩:=Kd.R_slice HO513.out;subst eo5;have hcz6_0:w4.cell? ⟨gb510,0,none⟩=some (.slice none 0 0):=(bC BK510.out 0).trans rfl;have hfz6_0:=bF BK510.out 0))
 refine bodyPost_ret (results_ct rfl _ _ gb510 24 #[.slice Ao5 t511.length co5] (0,0) _ rfl (by (with_reducible repeat first|apply bN|apply bD|apply bA);refine blk_put (cs:=#[.slice none 0 0]) ?_ 0 _ rfl;(with_reducible repeat first|apply bN|apply bD|apply bA);exact BK510.out) Try.underlying24 rfl (by kernel_rfl)) rfl ?_
 exact ⟨_,by first|rfl|(simp [errW_none,errW_some] <;> rfl)|(simp [*,errW_none,errW_some] <;> rfl),by (with_reducible repeat first|apply Kd.R_alloc|apply Kd.R_drewN|apply Kd.R_drew);exact Kd.R_mono (R_same_ (Kd.R_far (p:=⟨gb510,0,none⟩) (Kd.R_types HO513.out BK510.out (by decide)) (fun _ hk=>hk.2) (.slice Ao5 t511.length co5)) rfl) (fun _ hk=>trivial),by repeat (first|(with_reducible first|exact HB.out|apply qA|apply qN|apply q1_|refine qS ?_ GE510.out)|exact HB.out)⟩
end Go.Proofs.Ytghkbgmbbcaecaa.Q
namespace Go.Proofs.Ytghkbgmbbcaecaa.Q
open Go.RowKit Go.Proofs.YtghkbgmbbcaecaaW.PrintWords Go.Proofs.YtghkbgmbbcaecaaW.PrintLast Go.Proofs.YtghkbgmbbcaecaaW.PrintMore
attribute [local go_sem] run_field_23 run_field_24 run_field_31 run_field_32 run_field_35 run_field_36 isSome_setCell max2_int min2_int max_two min_two max_three min_three max_four min_four   -- for this text's walks alone
set_option linter.unusedVariables false
set_option linter.unusedSimpArgs false
def impl_Trie_kids.l0:Nat→Int→List Int→List (S62)→Int→Int→Option (List Int)
 | 0,_,_,_,_,_=>none
 | k+1,x1,x5,x10,x11,x12=>if x12<x11 then (if 0≤x12 then (if x12<(x10.length:Int) then (if ((rT x10 x12).f1)=x1 then (if x5.length<17592186044416 then (impl_Trie_kids.l0 k x1 (x5 ++ [x12]) x10 x11 (wrap64 (x12+1))) else (none)) else (impl_Trie_kids.l0 k x1 x5 x10 x11 (wrap64 (x12+1)))) else (none)) else (none)) else (some x5)
def impl_Trie_kids.f (k:Nat) (l0_0:List (S62)) (a1:Int):Option (List Int):=impl_Trie_kids.l0 k a1 (([]:List Int)) l0_0 (l0_0.length:Int) 0
set_option maxHeartbeats 8000000 in
set_option maxRecDepth 100000 in
theorem impl_Trie_kids.calls (k:Nat) (A0_0:Option Addr) (c0_0:Nat) (l0_0:List (S62)) (a1:Int) (r:List Int) (w:World) (hr0_0:Kd.C k62 w A0_0 l0_0.length l0_0) (hc0_0:l0_0.length≤c0_0) (h:impl_Trie_kids.f k l0_0 a1=some r) :
  Calls Try.prog 38 #[.agg #[.slice A0_0 l0_0.length c0_0],.int .i64 a1] w fun e w'=>∃ v0_:Value,e=.returned (v0_)∧Kd.R (Kd.int .i64) 3 w' w.heap.size (fun _=>True) v0_ r∧Below w.heap.size w w':=by
 have hu24:=Try.underlying24
 have hu62:=Try.underlying62
 have HR0_0:=Zz.mk hr0_0
 have HC0_0:=Zz.mk hc0_0
 clear hr0_0 hc0_0
 have HB:=Zz.mk (Below.refl w.heap.size w)
 have H:(impl_Trie_kids.l0 k a1 (([]:List Int)) l0_0 (l0_0.length:Int) 0)=some r:=h
 clear h
 obtain ⟨y373,hy373⟩:∃ y_:List Int,y_=(([]:List Int)):=⟨_,rfl⟩
 replace H:(impl_Trie_kids.l0 k a1 y373 l0_0 (l0_0.length:Int) 0)=some r:=by first|(rw [hy373];with_reducible exact H)|(have H2_:=(Option.bind_some _ _).symm.trans H;rw [hy373];with_reducible exact H2_)|(have H2_:=(Option.bind_some _ _).symm.trans H;with_reducible exact H2_)|with_reducible exact H|(rw [hy373];exact H)|exact H
 have Ny373:=Zz.mk hy373
 clear hy373
 have H':=Zz.mk H
 clear H
 go_enter Try.func38,Try.ntmps38
 go_wp2_with (first|((with_reducible refine gate_dst (N:=2) rfl ?_);refine box_event ?hg (N:=2) ?hd (cs:=#[.slice A0_0 l0_0.length c0_0]) (t:=24) ?hr ?_;(case hd=>rfl);(case hg=>rfl);(case hr=>first|(go_simp;done)|(go_simp;rfl));intro gb372 hg w3 hbox hb;have n0_:=Zz.mk (qP (by repeat (first|(with_reducible first|exact HB.out|apply qA|apply qN|apply q1_)|exact HB.out)) hb);have n1_:=Zz.mk (hbox);have n2_:=Zz.mk ((by rw [hg];exact (qZ (by repeat (first|(with_reducible first|exact HB.out|apply qA|apply qN|apply q1_)|exact HB.out))):w.heap.size≤gb372));have n3_:=Zz.mk ((by rw [hg];exact (qZ (by repeat (first|(with_reducible first|exact HB.out|apply qA|apply qN|apply q1_)|exact HB.out))):w.heap.size≤gb372));clear HB;have HB:=n0_;have BK372:=n1_;have GW372:=n2_;have GE372:=n3_;clear n0_ n1_ n2_ n3_;clear hb hbox hg)|((with_reducible refine gate_dst (N:=8) rfl ?_);refine Kd.R_lit (Kd.int .i64) _ 3 ?hg (N:=8) ?hd (xs:=([]:List Int)) (inner:=[]) (ok:=fun _=>True) (okp:=fun _=>True) ?hr ?hp (fun _ hk=>hk) trivial (Below.refl _ _) (Nat.le_refl _) (by simp) ?_;(case hd=>rfl);(case hg=>rfl);(case hr=>first|(go_simp;done)|(go_simp;rfl));(case hp=>exact (Reps.none _ _));intro v374 w4 ho5 hb hg_ hnew_;clear hg_ hnew_;(first|rw [← Ny373.out] at ho5|(simp only [Int.reduceToNat] at ho5;rw [← Ny373.out] at ho5));have n0_:=Zz.mk (Kd.R_lower ho5 (qZ (by repeat (first|(with_reducible first|exact HB.out|apply qA|apply qN|apply q1_|refine qS ?_ GE372.out)|exact HB.out))));have n1_:=Zz.mk (bB (g:=gb372) (o:=.cells #[.slice A0_0 l0_0.length c0_0] 24 (0,0)) (by (with_reducible repeat first|apply bN|apply bD|apply bA);exact BK372.out) hb);have n2_:=Zz.mk (qP (by repeat (first|(with_reducible first|exact HB.out|apply qA|apply qN|apply q1_|refine qS ?_ GE372.out)|exact HB.out)) hb);clear BK372;clear HB;have HO375:=n0_;have BK372:=n1_;have HB:=n2_;clear n0_ n1_ n2_;clear hb ho5;have hcz6_0:w4.cell? ⟨gb372,0,none⟩=some (.slice A0_0 l0_0.length c0_0):=(bC BK372.out 0).trans rfl;have hfz6_0:=bF BK372.out 0))
 go_loopg [5,12] k (fun kq v5 v12 w'=>∃ (x5_1:List Int) (x12_1:Int),v12=.int .i64 x12_1∧Zz (impl_Trie_kids.l0 kq a1 x5_1 l0_0 (l0_0.length:Int) x12_1=some r)∧Zz (kq≤k)∧Zz (Kd.R (Kd.int .i64) 3 w' w.heap.size (fun _=>True) v5 x5_1)∧Zz (w'.heap[gb372]?=some (.cells #[(.slice A0_0 l0_0.length c0_0)] 24 (0,0)))∧Zz (Below w.heap.size w w'))
 case atStart=>exact ⟨(y373),(0),(by first|rfl|(simp;done)|(simp [*];done)),H',⟨Nat.le_refl _⟩,⟨by (with_reducible repeat first|apply Kd.R_alloc|apply Kd.R_drewN|apply Kd.R_drew);exact HO375.out⟩,⟨by (with_reducible repeat first|apply bN|apply bD|apply bA);exact BK372.out⟩,⟨by repeat (first|(with_reducible first|exact HB.out|apply qA|apply qN|apply q1_|refine qS ?_ GE372.out)|exact HB.out)⟩⟩
 case round =>
  clear H'
  try clear p2
  try clear c3
  try clear hcz6_0
  try clear hfz6_0
  obtain ⟨x5_1,x12_1,rfl,HA,HK1,HO_5,BK372,HB⟩:=hrel
  cases gk with
  | zero=>exact absurd HA.out (by simp [impl_Trie_kids.l0])
  | succ k1 =>
   have H:=HA.out
   clear HA
   simp only [impl_Trie_kids.l0] at H
   by_cases c7:x12_1<(l0_0.length:Int)
   ·rw [if_pos c7] at H
    have c7b0:decide (x12_1<(l0_0.length:Int))=true:=decide_eq_true c7
    clear c7
    by_cases c8:0≤x12_1
    ·rw [if_pos c8] at H
     have c8b0:decide (0≤x12_1)=true:=decide_eq_true c8
     clear c8
     by_cases c9:x12_1<(l0_0.length:Int)
     ·rw [if_pos c9] at H
      have c9b0:decide (x12_1<(l0_0.length:Int))=true:=decide_eq_true c9
      clear c9
      by_cases c10:((rT l0_0 x12_1).f1)=a1
      ·rw [if_pos c10] at H
       have c10b0:(((rT l0_0 x12_1).f1) == a1)=true:=beq_iff_eq.mpr c10
       have c10b1:(((rT l0_0 x12_1).f1) != a1)=false:=bne_eq_false_iff_eq.mpr c10
       clear c10
       by_cases c11:x5_1.length<17592186044416
       ·rw [if_pos c11] at H
        have LMc11:=Zz.mk c11
        clear c11
        obtain ⟨y378,hy378⟩:∃ y_:List Int,y_=(x5_1 ++ [x12_1]):=⟨_,rfl⟩
        replace H:(impl_Trie_kids.l0 k1 a1 y378 l0_0 (l0_0.length:Int) (wrap64 (x12_1+1)))=some r:=by first|(rw [hy378];with_reducible exact H)|(have H2_:=(Option.bind_some _ _).symm.trans H;rw [hy378];with_reducible exact H2_)|(have H2_:=(Option.bind_some _ _).symm.trans H;with_reducible exact H2_)|with_reducible exact H|(rw [hy378];exact H)|exact H
        have Ny378:=Zz.mk hy378
        clear hy378
        have H':=Zz.mk H
        clear H
        have p376:0≤(x12_1:Int):=of_decide_eq_true (by first|(with_reducible assumption)|assumption)
        have q376:x12_1<(l0_0.length:Int):=of_decide_eq_true (by first|(with_reducible assumption)|assumption)
        obtain ⟨ad376,e376,hx376_0,hx376_1,hx376_2⟩:=at_T62 HR0_0.out x12_1 p376 q376
        cases e376
        replace hx376_0:=(HB.out.cell (World.block_lt_of_cell? w _ hx376_0)).trans hx376_0
        replace hx376_1:=(HB.out.cell (World.block_lt_of_cell? w _ hx376_1)).trans hx376_1
        replace hx376_2:=(HB.out.cell (World.block_lt_of_cell? w _ hx376_2)).trans hx376_2
        replace p376:=eq_true p376
        replace q376:=eq_true q376
        go_wp2_with (first|((with_reducible refine gate_dst (N:=7) rfl ?_);refine box_event ?hg (N:=7) ?hd (cs:=#[.int .i64 0,.int .i64 0,.bool false]) (t:=62) ?hr ?_;(case hd=>rfl);(case hg=>rfl);(case hr=>first|(go_simp;done)|(go_simp;rfl));intro gb377 hg w12 hbox hb;have n0_:=Zz.mk (Kd.R_below (by (with_reducible repeat first|apply Kd.R_alloc|apply Kd.R_drewN|apply Kd.R_drew);exact HO_5.out) hb);have n1_:=Zz.mk (bB (g:=gb372) (o:=.cells #[.slice (some ad376) l0_0.length c0_0] 24 (0,0)) (by (with_reducible repeat first|apply bN|apply bD|apply bA);exact BK372.out) hb);have n2_:=Zz.mk (qP (by repeat (first|(with_reducible first|exact HB.out|apply qA|apply qN|apply q1_|refine qS ?_ GE372.out)|exact HB.out)) hb);have n3_:=Zz.mk (hbox);have n4_:=Zz.mk ((by rw [hg];exact (qZ (by repeat (first|(with_reducible first|exact HB.out|apply qA|apply qN|apply q1_|refine qS ?_ GE372.out)|exact HB.out))):w.heap.size≤gb377));have n5_:=Zz.mk ((by rw [hg];exact (qZ (by repeat (first|(with_reducible first|exact HB.out|apply qA|apply qN|apply q1_|refine qS ?_ GE372.out)|exact HB.out))):w.heap.size≤gb377));have n6_:=Zz.mk ((by rw [hg];exact Nat.ne_of_lt (blk_lt (g:=gb372) (o:=.cells #[.slice (some ad376) l0_0.length c0_0] 24 (0,0)) (by (with_reducible repeat first|apply bN|apply bD|apply bA);exact BK372.out)):gb372 ≠ gb377));have n7_:=Zz.mk ((by rw [hg];exact Nat.ne_of_gt (blk_lt (g:=gb372) (o:=.cells #[.slice (some ad376) l0_0.length c0_0] 24 (0,0)) (by (with_reducible repeat first|apply bN|apply bD|apply bA);exact BK372.out)):gb377 ≠ gb372));clear HO_5;clear BK372;clear HB;have HO_5:=n0_;have BK372:=n1_;have HB:=n2_;have BK377:=n3_;have GW377:=n4_;have GE377:=n5_;have NB372_377:=n6_;have NB377_372:=n7_;clear n0_ n1_ n2_ n3_ n4_ n5_ n6_ n7_;clear hb hbox hg;have hnb13:=NB377_372.out;have hnc13:=NB372_377.out;have hcz14_0:w12.cell? ⟨gb377,0,none⟩=some (.int .i64 0):=(bC BK377.out 0).trans rfl;have hcz14_1:w12.cell? ⟨gb377,1,none⟩=some (.int .i64 0):=(bC BK377.out 1).trans rfl;have hcz14_2:w12.cell? ⟨gb377,2,none⟩=some (.bool false):=(bC BK377.out 2).trans rfl;have hfz14_0:=bF BK377.out 0;have hfz14_1:=bF BK377.out 1;have hfz14_2:=bF BK377.out 2)|((with_reducible refine gate_builtin (b:=.append) (xs:=#[.tmp 21,.tmp 23]) rfl ?_);at_builtin;refine Kd.R_append (Kd.int .i64) (w0:=w) w.heap.size rfl (.tmp 21) (.tmp 23) 43 3 (.int .i64 0) 8 rfl Try.underlying43 info3 rfl (by decide) (by omega) u5 x5_1 x12_1 [.int .i64 x12_1] (fun _=>True) (fun _=>False) rfl (by first|(go_simp;done)|(go_simp;rfl)) ?aP (fun _ hk=>hk.elim) ?aF ?aO ?aB ?aS ?aL ?_;(case aP=>exact rfl);(case aB=>exact (by repeat (first|(with_reducible first|exact HB.out|apply qA|apply qN|apply q1_|refine qS ?_ GE372.out|refine qS ?_ GE377.out)|exact HB.out)));(case aF=>exact (fun _ _=>trivial));(case aO=>exact (by (with_reducible repeat first|apply Kd.R_alloc|apply Kd.R_drewN|apply Kd.R_drew);exact Kd.R_mono (R_same_ (Kd.R_far (p:=⟨gb377,2,none⟩) (Kd.R_far (p:=⟨gb377,1,none⟩) (Kd.R_far (p:=⟨gb377,0,none⟩) (Kd.R_types HO_5.out BK377.out (by decide)) (fun _ hk=>hk.2) (.int .i64 ((rT l0_0 x12_1).f0))) (fun _ hk=>hk.2) (.int .i64 ((rT l0_0 x12_1).f1))) (fun _ hk=>hk.2) (.bool ((rT l0_0 x12_1).f2))) rfl) (fun _ hk=>trivial)));(case aS=>exact (qZ (by repeat (first|(with_reducible first|exact HB.out|apply qA|apply qN|apply q1_|refine qS ?_ GE372.out|refine qS ?_ GE377.out)|exact HB.out))));(case aL=>have:=LMc11.out;omega);intro v379 w15 ho hb hg hat;rw [← Ny378.out] at ho;have n0_:=Zz.mk (blk_grown (g:=gb372) (o:=.cells #[.slice (some ad376) l0_0.length c0_0] 24 (0,0)) (by (with_reducible repeat first|apply bN|apply bD|apply bA);refine blk_far ?_ NB372_377.out _;(with_reducible repeat first|apply bN|apply bD|apply bA);refine blk_far ?_ NB372_377.out _;(with_reducible repeat first|apply bN|apply bD|apply bA);refine blk_far ?_ NB372_377.out _;(with_reducible repeat first|apply bN|apply bD|apply bA);exact BK372.out) hg (Kd.R_ne HO_5.out BK372.out (by decide)));have n1_:=Zz.mk (blk_grown (g:=gb377) (o:=.cells #[.int .i64 ((rT l0_0 x12_1).f0),.int .i64 ((rT l0_0 x12_1).f1),.bool ((rT l0_0 x12_1).f2)] 62 (0,0)) (by (with_reducible repeat first|apply bN|apply bD|apply bA);refine blk_put (cs:=#[.int .i64 ((rT l0_0 x12_1).f0),.int .i64 ((rT l0_0 x12_1).f1),.bool false]) ?_ 2 _ rfl;(with_reducible repeat first|apply bN|apply bD|apply bA);refine blk_put (cs:=#[.int .i64 ((rT l0_0 x12_1).f0),.int .i64 0,.bool false]) ?_ 1 _ rfl;(with_reducible repeat first|apply bN|apply bD|apply bA);refine blk_put (cs:=#[.int .i64 0,.int .i64 0,.bool false]) ?_ 0 _ rfl;(with_reducible repeat first|apply bN|apply bD|apply bA);exact BK377.out) hg (Kd.R_ne HO_5.out BK377.out (by decide)));have n2_:=Zz.mk (hb);have n3_:=Zz.mk (ho);clear BK372;clear BK377;clear HB;clear HO_5;have BK372:=n0_;have BK377:=n1_;have HB:=n2_;have HO380:=n3_;clear n0_ n1_ n2_ n3_;clear ho hb hg hat))
        go_roundg k1
        case measure=>have:=HK1.out;omega
        case rel=>exact ⟨(y378),(wrap64 (x12_1+1)),(by first|rfl|(simp;done)|(simp [*];done)),H',⟨by have:=HK1.out;omega⟩,⟨by (with_reducible repeat first|apply Kd.R_alloc|apply Kd.R_drewN|apply Kd.R_drew);exact HO380.out⟩,⟨by (with_reducible repeat first|apply bN|apply bD|apply bA);exact BK372.out⟩,⟨by repeat (first|(with_reducible first|exact HB.out|apply qA|apply qN|apply q1_|refine qS ?_ GE372.out|refine qS ?_ GE377.out)|exact HB.out)⟩⟩
       ·rw [if_neg c11] at H
        exact absurd H (by simp)
      ·rw [if_neg c10] at H
       have c10b0:(((rT l0_0 x12_1).f1) == a1)=false:=beq_eq_false_iff_ne.mpr c10
       have c10b1:(((rT l0_0 x12_1).f1) != a1)=true:=bne_iff_ne.mpr c10
       have H':=Zz.mk H
       clear H
       have p376:0≤(x12_1:Int):=of_decide_eq_true (by first|(with_reducible assumption)|assumption)
       have q376:x12_1<(l0_0.length:Int):=of_decide_eq_true (by first|(with_reducible assumption)|assumption)
       obtain ⟨ad376,e376,hx376_0,hx376_1,hx376_2⟩:=at_T62 HR0_0.out x12_1 p376 q376
       cases e376
       replace hx376_0:=(HB.out.cell (World.block_lt_of_cell? w _ hx376_0)).trans hx376_0
       replace hx376_1:=(HB.out.cell (World.block_lt_of_cell? w _ hx376_1)).trans hx376_1
       replace hx376_2:=(HB.out.cell (World.block_lt_of_cell? w _ hx376_2)).trans hx376_2
       replace p376:=eq_true p376
       replace q376:=eq_true q376
       go_wp2_with (first|((with_reducible refine gate_dst (N:=7) rfl ?_);refine box_event ?hg (N:=7) ?hd (cs:=#[.int .i64 0,.int .i64 0,.bool false]) (t:=62) ?hr ?_;(case hd=>rfl);(case hg=>rfl);(case hr=>first|(go_simp;done)|(go_simp;rfl));intro gb377 hg w16 hbox hb;have n0_:=Zz.mk (Kd.R_below (by (with_reducible repeat first|apply Kd.R_alloc|apply Kd.R_drewN|apply Kd.R_drew);exact HO_5.out) hb);have n1_:=Zz.mk (bB (g:=gb372) (o:=.cells #[.slice (some ad376) l0_0.length c0_0] 24 (0,0)) (by (with_reducible repeat first|apply bN|apply bD|apply bA);exact BK372.out) hb);have n2_:=Zz.mk (qP (by repeat (first|(with_reducible first|exact HB.out|apply qA|apply qN|apply q1_|refine qS ?_ GE372.out)|exact HB.out)) hb);have n3_:=Zz.mk (hbox);have n4_:=Zz.mk ((by rw [hg];exact (qZ (by repeat (first|(with_reducible first|exact HB.out|apply qA|apply qN|apply q1_|refine qS ?_ GE372.out)|exact HB.out))):w.heap.size≤gb377));have n5_:=Zz.mk ((by rw [hg];exact (qZ (by repeat (first|(with_reducible first|exact HB.out|apply qA|apply qN|apply q1_|refine qS ?_ GE372.out)|exact HB.out))):w.heap.size≤gb377));have n6_:=Zz.mk ((by rw [hg];exact Nat.ne_of_lt (blk_lt (g:=gb372) (o:=.cells #[.slice (some ad376) l0_0.length c0_0] 24 (0,0)) (by (with_reducible repeat first|apply bN|apply bD|apply bA);exact BK372.out)):gb372 ≠ gb377));have n7_:=Zz.mk ((by rw [hg];exact Nat.ne_of_gt (blk_lt (g:=gb372) (o:=.cells #[.slice (some ad376) l0_0.length c0_0] 24 (0,0)) (by (with_reducible repeat first|apply bN|apply bD|apply bA);exact BK372.out)):gb377 ≠ gb372));clear HO_5;clear BK372;clear HB;have HO_5:=n0_;have BK372:=n1_;have HB:=n2_;have BK377:=n3_;have GW377:=n4_;have GE377:=n5_;have NB372_377:=n6_;have NB377_372:=n7_;clear n0_ n1_ n2_ n3_ n4_ n5_ n6_ n7_;clear hb hbox hg;have hnb17:=NB377_372.out;have hnc17:=NB372_377.out;have hcz18_0:w16.cell? ⟨gb377,0,none⟩=some (.int .i64 0):=(bC BK377.out 0).trans rfl;have hcz18_1:w16.cell? ⟨gb377,1,none⟩=some (.int .i64 0):=(bC BK377.out 1).trans rfl;have hcz18_2:w16.cell? ⟨gb377,2,none⟩=some (.bool false):=(bC BK377.out 2).trans rfl;have hfz18_0:=bF BK377.out 0;have hfz18_1:=bF BK377.out 1;have hfz18_2:=bF BK377.out 2))
       go_roundg k1
       case measure=>have:=HK1.out;omega
       case rel=>exact ⟨(x5_1),(wrap64 (x12_1+1)),(by first|rfl|(simp;done)|(simp [*];done)),H',⟨by have:=HK1.out;omega⟩,⟨by (with_reducible repeat first|apply Kd.R_alloc|apply Kd.R_drewN|apply Kd.R_drew);exact Kd.R_mono (R_same_ (Kd.R_far (p:=⟨gb377,2,none⟩) (Kd.R_far (p:=⟨gb377,1,none⟩) (Kd.R_far (p:=⟨gb377,0,none⟩) (Kd.R_types HO_5.out BK377.out (by decide)) (fun _ hk=>hk.2) (.int .i64 ((rT l0_0 x12_1).f0))) (fun _ hk=>hk.2) (.int .i64 ((rT l0_0 x12_1).f1))) (fun _ hk=>hk.2) (.bool ((rT l0_0 x12_1).f2))) rfl) (fun _ hk=>trivial)⟩,⟨by (with_reducible repeat first|apply bN|apply bD|apply bA);refine blk_far ?_ NB372_377.out _;(with_reducible repeat first|apply bN|apply bD|apply bA);refine blk_far ?_ NB372_377.out _;(with_reducible repeat first|apply bN|apply bD|apply bA);refine blk_far ?_ NB372_377.out _;(with_reducible repeat first|apply bN|apply bD|apply bA);exact BK372.out⟩,⟨by repeat (first|(with_reducible first|exact HB.out|apply qA|apply qN|apply q1_|refine qS ?_ GE372.out|refine qS ?_ GE377.out)|exact HB.out)⟩⟩
     ·rw [if_neg c9] at H
      exact absurd H (by simp)
    ·rw [if_neg c8] at H
     exact absurd H (by simp)
   ·rw [if_neg c7] at H
    have c7b0:decide (x12_1<(l0_0.length:Int))=false:=decide_eq_false c7
    clear c7
    obtain rfl:=Option.some.inj H
    go_wp2
    go_ret
    exact ⟨_,by first|rfl|(simp [errW_none,errW_some] <;> rfl)|(simp [*,errW_none,errW_some] <;> rfl),by (with_reducible repeat first|apply Kd.R_alloc|apply Kd.R_drewN|apply Kd.R_drew);exact HO_5.out,by repeat (first|(with_reducible first|exact HB.out|apply qA|apply qN|apply q1_|refine qS ?_ GE372.out)|exact HB.out)⟩
end Go.Proofs.Ytghkbgmbbcaecaa.Q
namespace Go.Proofs.Ytghkbgmbbcaecaa.Q
open Go.RowKit Go.Proofs.YtghkbgmbbcaecaaW.PrintWords Go.Proofs.YtghkbgmbbcaecaaW.PrintLast Go.Proofs.YtghkbgmbbcaecaaW.PrintMore
attribute [local go_sem] run_field_23 run_field_24 run_field_31 run_field_32 run_field_35 run_field_36 isSome_setCell max2_int min2_int max_two min_two max_three min_three max_four min_four   -- for this text's walks alone
set_option linter.unusedVariables false
set_option linter.unusedSimpArgs false
def impl_ofWords.f (l0:List ByteArray):Option ((List (S62)) × Bool):=(impl_set.f l0).bind fun t516=>(if (t516.length:Int) > 40 then (some (([]:List (S62)),false)) else ((impl_trieOf.f t516).bind fun t519=>(some (t519,true))))
set_option maxHeartbeats 8000000 in
set_option maxRecDepth 100000 in
theorem impl_ofWords.calls (A0:Option Addr) (c0:Nat) (l0:List ByteArray) (r1:List (S62)) (r2:Bool) (w:World) (hr0:Kd.C Kd.string w A0 l0.length l0) (hc0:l0.length≤c0) (h:impl_ofWords.f l0=some (r1,r2)) :
  Calls Try.prog 18 #[.slice A0 l0.length c0] w fun e w'=>∃ v0_:Value,e=.returned (.tuple #[.agg #[v0_],.bool r2])∧Kd.R k62 62 w' w.heap.size (fun _=>True) v0_ r1∧Below w.heap.size w w':=by
 have hu24:=Try.underlying24
 have HR0:=Zz.mk hr0
 have HC0:=Zz.mk hc0
 clear hr0 hc0
 have HB:=Zz.mk (Below.refl w.heap.size w)
 have H:((impl_set.f l0).bind fun t516=>(if (t516.length:Int) > 40 then (some (([]:List (S62)),false)) else ((impl_trieOf.f t516).bind fun t519=>(some (t519,true)))))=some (r1,r2):=h
 clear h
 replace H:=Option.bind_eq_some_iff.mp H
 obtain ⟨t516,A20,H⟩:=H
 replace H:(if (t516.length:Int) > 40 then (some (([]:List (S62)),false)) else ((impl_trieOf.f t516).bind fun t519=>(some (t519,true))))=some (r1,r2):=H
 have A2:=Zz.mk A20
 clear A20
 by_cases c3:(t516.length:Int) > 40
 ·rw [if_pos c3] at H
  have c3b0:decide (40<(t516.length:Int))=true:=decide_eq_true c3
  have c3b1:decide (40<t516.length)=true:=decide_eq_true (by omega)
  clear c3
  simp only [Option.some.injEq,Prod.mk.injEq] at H
  obtain ⟨rfl,rfl⟩:=H
  go_enter Try.func18,Try.ntmps18
  go_wp2_with (first|((with_reducible refine gate_dst (N:=2) rfl ?_);refine box_event ?hg (N:=2) ?hd (cs:=#[.slice none 0 0]) (t:=24) ?hr ?_;(case hd=>rfl);(case hg=>rfl);(case hr=>first|(go_simp;done)|(go_simp;rfl));intro gb515 hg w4 hbox hb;have n0_:=Zz.mk (qP (by repeat (first|(with_reducible first|exact HB.out|apply qA|apply qN|apply q1_)|exact HB.out)) hb);have n1_:=Zz.mk (hbox);have n2_:=Zz.mk ((by rw [hg];exact (qZ (by repeat (first|(with_reducible first|exact HB.out|apply qA|apply qN|apply q1_)|exact HB.out))):w.heap.size≤gb515));have n3_:=Zz.mk ((by rw [hg];exact (qZ (by repeat (first|(with_reducible first|exact HB.out|apply qA|apply qN|apply q1_)|exact HB.out))):w.heap.size≤gb515));clear HB;have HB:=n0_;have BK515:=n1_;have GW515:=n2_;have GE515:=n3_;clear n0_ n1_ n2_ n3_;clear hb hbox hg)|((with_reducible refine gate_callee (f:=35) rfl ?_);refine goesL_ (some 6) rfl rfl Try.func35 (by kernel_rfl) rfl #[.slice A0 l0.length c0] rfl (by (try simp only [List.map_toArray,List.map_cons,List.map_nil]);first|done|rfl|(simp only [List.length_drop,List.length_take];rfl)) ?_;(with_reducible refine (impl_set.calls _ _ l0 t516 _ ?side1 ?side2 A2.out).mono ?_);(case side1=>repeat (first|exact (Kd.C_below HR0.out HB.out)|(with_reducible refine Kd.C_alloc ?_ _)|(with_reducible refine Kd.C_drewN ?_ _)|(with_reducible refine Kd.C_drew ?_)));(case side2=>exact HC0.out);rintro e w5 ⟨v517,rfl,ho0,hb⟩;refine ⟨_,rfl,?_⟩;have n0_:=Zz.mk (Kd.R_lower ho0 (qZ (by repeat (first|(with_reducible first|exact HB.out|apply qA|apply qN|apply q1_|refine qS ?_ GE515.out)|exact HB.out))));have n1_:=Zz.mk (bB (g:=gb515) (o:=.cells #[.slice none 0 0] 24 (0,0)) (by (with_reducible repeat first|apply bN|apply bD|apply bA);exact BK515.out) hb);have n2_:=Zz.mk (qP (by repeat (first|(with_reducible first|exact HB.out|apply qA|apply qN|apply q1_|refine qS ?_ GE515.out)|exact HB.out)) hb);clear BK515;clear HB;have HO518:=n0_;have BK515:=n1_;have HB:=n2_;clear n0_ n1_ n2_;(try clear hb);(try clear hb2);(try clear hk);(try clear hi);(try clear ho0);obtain ⟨Ao6,co6,eo6⟩:=Kd.R_slice HO518.out;subst eo6;have hcz7_0:w5.cell? ⟨gb515,0,none⟩=some (.slice none 0 0):=(bC BK515.out 0).trans rfl;have hfz7_0:=bF BK515.out 0))
  refine bodyPost_ret (results_ct rfl _ _ gb515 24 #[.slice none 0 0] (0,0) _ rfl (by (with_reducible repeat first|apply bN|apply bD|apply bA);refine blk_put (cs:=#[.slice none 0 0]) ?_ 0 _ rfl;(with_reducible repeat first|apply bN|apply bD|apply bA);exact BK515.out) Try.underlying24 rfl (by kernel_rfl)) rfl ?_
  exact ⟨_,by first|rfl|(simp [errW_none,errW_some] <;> rfl)|(simp [*,errW_none,errW_some] <;> rfl),by first|exact Kd.R_nil _ _ _ _ _|exact Kd.N_nil _ _ _ _ _|exact Kd.V_nil _ _ _ _ _|exact Kd.Q_nil _ _ _ _ _|exact Kd.S_nil _ _ _ _ _,by repeat (first|(with_reducible first|exact HB.out|apply qA|apply qN|apply q1_|refine qS ?_ GE515.out)|exact HB.out)⟩
 ·rw [if_neg c3] at H
  have c3b0:decide (40<(t516.length:Int))=false:=decide_eq_false c3
  have c3b1:decide (40<t516.length)=false:=decide_eq_false (by omega)
  clear c3
  replace H:=Option.bind_eq_some_iff.mp H
  obtain ⟨t519,A80,H⟩:=H
  replace H:(some (t519,true))=some (r1,r2):=H
  have A8:=Zz.mk A80
  clear A80
  simp only [Option.some.injEq,Prod.mk.injEq] at H
  obtain ⟨rfl,rfl⟩:=H
  go_enter Try.func18,Try.ntmps18
  go_wp2_with (first|((with_reducible refine gate_dst (N:=2) rfl ?_);refine box_event ?hg (N:=2) ?hd (cs:=#[.slice none 0 0]) (t:=24) ?hr ?_;(case hd=>rfl);(case hg=>rfl);(case hr=>first|(go_simp;done)|(go_simp;rfl));intro gb515 hg w9 hbox hb;have n0_:=Zz.mk (qP (by repeat (first|(with_reducible first|exact HB.out|apply qA|apply qN|apply q1_)|exact HB.out)) hb);have n1_:=Zz.mk (hbox);have n2_:=Zz.mk ((by rw [hg];exact (qZ (by repeat (first|(with_reducible first|exact HB.out|apply qA|apply qN|apply q1_)|exact HB.out))):w.heap.size≤gb515));have n3_:=Zz.mk ((by rw [hg];exact (qZ (by repeat (first|(with_reducible first|exact HB.out|apply qA|apply qN|apply q1_)|exact HB.out))):w.heap.size≤gb515));clear HB;have HB:=n0_;have BK515:=n1_;have GW515:=n2_;have GE515:=n3_;clear n0_ n1_ n2_ n3_;clear hb hbox hg)|((with_reducible refine gate_callee (f:=35) rfl ?_);refine goesL_ (some 6) rfl rfl Try.func35 (by kernel_rfl) rfl #[.slice A0 l0.length c0] rfl (by (try simp only [List.map_toArray,List.map_cons,List.map_nil]);first|done|rfl|(simp only [List.length_drop,List.length_take];rfl)) ?_;(with_reducible refine (impl_set.calls _ _ l0 t516 _ ?side1 ?side2 A2.out).mono ?_);(case side1=>repeat (first|exact (Kd.C_below HR0.out HB.out)|(with_reducible refine Kd.C_alloc ?_ _)|(with_reducible refine Kd.C_drewN ?_ _)|(with_reducible refine Kd.C_drew ?_)));(case side2=>exact HC0.out);rintro e w10 ⟨v517,rfl,ho0,hb⟩;refine ⟨_,rfl,?_⟩;have n0_:=Zz.mk (Kd.R_lower ho0 (qZ (by repeat (first|(with_reducible first|exact HB.out|apply qA|apply qN|apply q1_|refine qS ?_ GE515.out)|exact HB.out))));have n1_:=Zz.mk (bB (g:=gb515) (o:=.cells #[.slice none 0 0] 24 (0,0)) (by (with_reducible repeat first|apply bN|apply bD|apply bA);exact BK515.out) hb);have n2_:=Zz.mk (qP (by repeat (first|(with_reducible first|exact HB.out|apply qA|apply qN|apply q1_|refine qS ?_ GE515.out)|exact HB.out)) hb);clear BK515;clear HB;have HO518:=n0_;have BK515:=n1_;have HB:=n2_;clear n0_ n1_ n2_;(try clear hb);(try clear hb2);(try clear hk);(try clear hi);(try clear ho0);obtain ⟨Ao11,co11,eo11⟩:=Kd.R_slice HO518.out;subst eo11)|((with_reducible refine gate_callee (f:=36) rfl ?_);refine goesL_ (some 12) rfl rfl Try.func36 (by kernel_rfl) rfl #[.slice Ao11 t516.length co11] rfl (by (try simp only [List.map_toArray,List.map_cons,List.map_nil]);first|done|rfl|(simp only [List.length_drop,List.length_take];rfl)) ?_;(with_reducible refine (impl_trieOf.calls _ _ t516 t519 _ ?side1 ?side2 A8.out).mono ?_);(case side1=>repeat (first|exact (Kd.R_reads' HO518.out).2.2|(with_reducible refine Kd.C_alloc ?_ _)|(with_reducible refine Kd.C_drewN ?_ _)|(with_reducible refine Kd.C_drew ?_)));(case side2=>exact (Kd.R_reads' HO518.out).2.1);rintro e w12 ⟨v520,rfl,ho0,hb⟩;refine ⟨_,rfl,?_⟩;have n0_:=Zz.mk (Kd.R_below (by (with_reducible repeat first|apply Kd.R_alloc|apply Kd.R_drewN|apply Kd.R_drew);exact HO518.out) hb);have n1_:=Zz.mk (Kd.R_lower ho0 (qZ (by repeat (first|(with_reducible first|exact HB.out|apply qA|apply qN|apply q1_|refine qS ?_ GE515.out)|exact HB.out))));have n2_:=Zz.mk (bB (g:=gb515) (o:=.cells #[.slice none 0 0] 24 (0,0)) (by (with_reducible repeat first|apply bN|apply bD|apply bA);exact BK515.out) hb);have n3_:=Zz.mk (qP (by repeat (first|(with_reducible first|exact HB.out|apply qA|apply qN|apply q1_|refine qS ?_ GE515.out)|exact HB.out)) hb);clear HO518;clear BK515;clear HB;have HO518:=n0_;have HO521:=n1_;have BK515:=n2_;have HB:=n3_;clear n0_ n1_ n2_ n3_;(try clear hb);(try clear hb2);(try clear hk);(try clear hi);(try clear ho0);obtain ⟨Ao13,co13,eo13⟩:=Kd.R_slice HO521.out;subst eo13;have hcz14_0:w12.cell? ⟨gb515,0,none⟩=some (.slice none 0 0):=(bC BK515.out 0).trans rfl;have hfz14_0:=bF BK515.out 0))
  refine bodyPost_ret (results_ct rfl _ _ gb515 24 #[.slice Ao13 t519.length co13] (0,0) _ rfl (by (with_reducible repeat first|apply bN|apply bD|apply bA);refine blk_put (cs:=#[.slice none 0 0]) ?_ 0 _ rfl;(with_reducible repeat first|apply bN|apply bD|apply bA);exact BK515.out) Try.underlying24 rfl (by kernel_rfl)) rfl ?_
  exact ⟨_,by first|rfl|(simp [errW_none,errW_some] <;> rfl)|(simp [*,errW_none,errW_some] <;> rfl),by (with_reducible repeat first|apply Kd.R_alloc|apply Kd.R_drewN|apply Kd.R_drew);exact Kd.R_mono (R_same_ (Kd.R_far (p:=⟨gb515,0,none⟩) (Kd.R_types HO521.out BK515.out (by decide)) (fun _ hk=>hk.2) (.slice Ao13 t519.length co13)) rfl) (fun _ hk=>trivial),by repeat (first|(with_reducible first|exact HB.out|apply qA|apply qN|apply q1_|refine qS ?_ GE515.out)|exact HB.out)⟩
mutual
def impl_Trie_text.j0:Nat→Int→ByteArray→List (S62)→Option (ByteArray)
 | 0,_,_,_=>none
 | k+1,x1,x5,x523000=>if 0≤x1 then (if x1<(x523000.length:Int) then (if (rT x523000 x1).f2=true then (if x5.size+1≤9223372036854775807 then (impl_Trie_text.j1 k x1 (x5 ++ (⟨#[46]⟩:ByteArray)) x523000) else (none)) else (impl_Trie_text.j1 k x1 x5 x523000)) else (none)) else (none)
def impl_Trie_text.j1:Nat→Int→ByteArray→List (S62)→Option (ByteArray)
 | 0,_,_,_=>none
 | k+1,x1,x5,x523000=>(impl_Trie_kids.f k x523000 x1).bind fun t526=>(if (t526.length:Int)=0 then (some x5) else (if x5.size+1≤9223372036854775807 then (impl_Trie_text.l0 k (x5 ++ (⟨#[40]⟩:ByteArray)) t526 (t526.length:Int) 0 x523000) else (none)))
def impl_Trie_text.l0:Nat→ByteArray→List Int→Int→Int→List (S62)→Option (ByteArray)
 | 0,_,_,_,_,_=>none
 | k+1,x5,x35,x36,x37,x523000=>if x37<x36 then (if 0≤x37 then (if x37<(x35.length:Int) then ((impl_Trie_text.f k x523000 (rd x35 x37)).bind fun t530=>(if x5.size+t530.size≤9223372036854775807 then (impl_Trie_text.l0 k (x5 ++ t530) x35 x36 (wrap64 (x37+1)) x523000) else (none))) else (none)) else (none)) else (if x5.size+1≤9223372036854775807 then (some (x5 ++ (⟨#[41]⟩:ByteArray))) else (none))
def impl_Trie_text.f:Nat→List (S62)→Int→Option (ByteArray)
 | 0,_,_=>none
 | k+1,l0_0,a1=>if a1 > 0 then (if 0≤a1 then (if a1<(l0_0.length:Int) then ((impl_letter.f ((rT l0_0 a1).f0)).bind fun t524=>(impl_Trie_text.j0 k a1 t524 l0_0)) else (none)) else (none)) else (impl_Trie_text.j0 k a1 (⟨#[]⟩:ByteArray) l0_0)
end
set_option maxHeartbeats 8000000 in
set_option maxRecDepth 100000 in
theorem impl_Trie_text.calls (k:Nat):∀ (A0_0:Option Addr) (c0_0:Nat) (l0_0:List (S62)) (a1:Int) (r:ByteArray) (w:World) (hr0_0:Kd.C k62 w A0_0 l0_0.length l0_0) (hc0_0:l0_0.length≤c0_0) (h:impl_Trie_text.f k l0_0 a1=some r),
  Calls Try.prog 19 #[.agg #[.slice A0_0 l0_0.length c0_0],.int .i64 a1] w fun e w'=>e=.returned (.string r)∧Below w.heap.size w w':=by
 induction k using Nat.strongRecOn with
 | _ k ih =>
 intro A0_0 c0_0 l0_0 a1 r w hr0_0 hc0_0 h
 cases k with
 | zero=>exact absurd h (by simp [impl_Trie_text.f])
 | succ k =>
 simp only [impl_Trie_text.f] at h
 have hu24:=Try.underlying24
 have HR0_0:=Zz.mk hr0_0
 have HC0_0:=Zz.mk hc0_0
 clear hr0_0 hc0_0
 have HB:=Zz.mk (Below.refl w.heap.size w)
 have H:(if a1 > 0 then (if 0≤a1 then (if a1<(l0_0.length:Int) then ((impl_letter.f ((rT l0_0 a1).f0)).bind fun t524=>(impl_Trie_text.j0 k a1 t524 l0_0)) else (none)) else (none)) else (impl_Trie_text.j0 k a1 (⟨#[]⟩:ByteArray) l0_0))=some r:=h
 clear h
 have HC3:=Zz.mk H
 clear H
 go_enter Try.func19,Try.ntmps19
 go_upto_if 10 with (first|((with_reducible refine gate_dst (N:=2) rfl ?_);refine box_event ?hg (N:=2) ?hd (cs:=#[.slice A0_0 l0_0.length c0_0]) (t:=24) ?hr ?_;(case hd=>rfl);(case hg=>rfl);(case hr=>first|(go_simp;done)|(go_simp;rfl));intro gb522 hg w4 hbox hb;have n0_:=Zz.mk (qP (by repeat (first|(with_reducible first|exact HB.out|apply qA|apply qN|apply q1_)|exact HB.out)) hb);have n1_:=Zz.mk (hbox);have n2_:=Zz.mk ((by rw [hg];exact (qZ (by repeat (first|(with_reducible first|exact HB.out|apply qA|apply qN|apply q1_)|exact HB.out))):w.heap.size≤gb522));have n3_:=Zz.mk ((by rw [hg];exact (qZ (by repeat (first|(with_reducible first|exact HB.out|apply qA|apply qN|apply q1_)|exact HB.out))):w.heap.size≤gb522));clear HB;have HB:=n0_;have BK522:=n1_;have GW522:=n2_;have GE522:=n3_;clear n0_ n1_ n2_ n3_;clear hb hbox hg))
 (try simp only [Act.put,List.setIfInBounds_toArray,List.set_cons_zero,List.set_cons_succ])
 go_cut [5] (fun v5 wc=>∃ (kq:Nat) (x5_2:ByteArray),v5=.string x5_2∧Zz (impl_Trie_text.j0 kq a1 x5_2 l0_0=some r)∧Zz (kq≤k)∧Zz (wc.heap[gb522]?=some (.cells #[(.slice A0_0 l0_0.length c0_0)] 24 (0,0)))∧Zz (Below w.heap.size w wc))
 case first =>
  have H:=HC3.out
  clear HC3
  by_cases c5:a1 > 0
  ·rw [if_pos c5] at H
   have c5b0:decide (0<a1)=true:=decide_eq_true c5
   clear c5
   (first|rw [c5b0]|(simp only [i64_w,i32_w];rw [c5b0])|skip)
   by_cases c6:0≤a1
   ·rw [if_pos c6] at H
    have c6b0:decide (0≤a1)=true:=decide_eq_true c6
    clear c6
    by_cases c7:a1<(l0_0.length:Int)
    ·rw [if_pos c7] at H
     have c7b0:decide (a1<(l0_0.length:Int))=true:=decide_eq_true c7
     clear c7
     replace H:=Option.bind_eq_some_iff.mp H
     obtain ⟨t524,A80,H⟩:=H
     replace H:(impl_Trie_text.j0 k a1 t524 l0_0)=some r:=H
     have A8:=Zz.mk A80
     clear A80
     have H':=Zz.mk H
     clear H
     have hcz9_0:w4.cell? ⟨gb522,0,none⟩=some (.slice A0_0 l0_0.length c0_0):=(bC BK522.out 0).trans rfl
     have hfz9_0:=bF BK522.out 0
     have p523:0≤(a1:Int):=of_decide_eq_true (by first|(with_reducible assumption)|assumption)
     have q523:a1<(l0_0.length:Int):=of_decide_eq_true (by first|(with_reducible assumption)|assumption)
     obtain ⟨ad523,e523,hx523_0,hx523_1,hx523_2⟩:=at_T62 HR0_0.out a1 p523 q523
     cases e523
     replace hx523_0:=(HB.out.cell (World.block_lt_of_cell? w _ hx523_0)).trans hx523_0
     replace hx523_1:=(HB.out.cell (World.block_lt_of_cell? w _ hx523_1)).trans hx523_1
     replace hx523_2:=(HB.out.cell (World.block_lt_of_cell? w _ hx523_2)).trans hx523_2
     replace p523:=eq_true p523
     replace q523:=eq_true q523
     go_wp2_with (first|((with_reducible refine gate_callee (f:=37) rfl ?_);refine goesL_ (some 17) rfl rfl Try.func37 (by kernel_rfl) rfl #[.int .i64 ((rT l0_0 a1).f0)] rfl (by (try simp only [List.map_toArray,List.map_cons,List.map_nil]);first|done|rfl|(simp only [List.length_drop,List.length_take];rfl)) ?_;(with_reducible refine (impl_letter.calls ((rT l0_0 a1).f0) t524 _ A8.out).mono ?_);rintro e w10 ⟨rfl,hb⟩;refine ⟨_,rfl,?_⟩;have n0_:=Zz.mk (bB (g:=gb522) (o:=.cells #[.slice (some ad523) l0_0.length c0_0] 24 (0,0)) (by (with_reducible repeat first|apply bN|apply bD|apply bA);exact BK522.out) hb);have n1_:=Zz.mk (qP (by repeat (first|(with_reducible first|exact HB.out|apply qA|apply qN|apply q1_|refine qS ?_ GE522.out)|exact HB.out)) hb);clear BK522;clear HB;have BK522:=n0_;have HB:=n1_;clear n0_ n1_;(try clear hb);(try clear hb2);(try clear hk);(try clear hi)))
     go_meet
     case rel=>exact ⟨_,(t524),(by first|rfl|(simp;done)|(simp [*];done)),H',⟨by first|omega|exact Nat.le_refl _⟩,⟨by (with_reducible repeat first|apply bN|apply bD|apply bA);exact BK522.out⟩,⟨by repeat (first|(with_reducible first|exact HB.out|apply qA|apply qN|apply q1_|refine qS ?_ GE522.out)|exact HB.out)⟩⟩
    ·rw [if_neg c7] at H
     exact absurd H (by simp)
   ·rw [if_neg c6] at H
    exact absurd H (by simp)
  ·rw [if_neg c5] at H
   have c5b0:decide (0<a1)=false:=decide_eq_false c5
   clear c5
   (first|rw [c5b0]|(simp only [i64_w,i32_w];rw [c5b0])|skip)
   have H':=Zz.mk H
   clear H
   go_wp2
   go_meet
   case rel=>exact ⟨_,((⟨#[]⟩:ByteArray)),(by first|rfl|(simp;done)|(simp [*];done)),H',⟨by first|omega|exact Nat.le_refl _⟩,⟨by (with_reducible repeat first|apply bN|apply bD|apply bA);exact BK522.out⟩,⟨by repeat (first|(with_reducible first|exact HB.out|apply qA|apply qN|apply q1_|refine qS ?_ GE522.out)|exact HB.out)⟩⟩
 case rest =>
  clear HC3
  try clear c1
  try clear p2
  try clear c3
  try clear c5
  try clear c5b0
  try clear p5
  try clear q5
  try clear hx5
  try clear c6
  try clear c6b0
  try clear c7
  try clear c7b0
  try clear hcz9_0
  try clear hfz9_0
  try clear hx523_0
  try clear hx523_1
  try clear hx523_2
  try clear p523
  try clear q523
  obtain ⟨kq,x5_2,rfl,HA,HJ2,BK522,HB⟩:=hcut
  cases kq with
  | zero=>exact absurd HA.out (by simp [impl_Trie_text.j0])
  | succ kj2 =>
   have H:=HA.out
   clear HA
   simp only [impl_Trie_text.j0] at H
   by_cases c11:0≤a1
   ·rw [if_pos c11] at H
    have c11b0:decide (0≤a1)=true:=decide_eq_true c11
    clear c11
    by_cases c12:a1<(l0_0.length:Int)
    ·rw [if_pos c12] at H
     have c12b0:decide (a1<(l0_0.length:Int))=true:=decide_eq_true c12
     clear c12
     have HC13:=Zz.mk H
     clear H
     have hcz14_0:wc.cell? ⟨gb522,0,none⟩=some (.slice A0_0 l0_0.length c0_0):=(bC BK522.out 0).trans rfl
     have hfz14_0:=bF BK522.out 0
     have p525:0≤(a1:Int):=of_decide_eq_true (by first|(with_reducible assumption)|assumption)
     have q525:a1<(l0_0.length:Int):=of_decide_eq_true (by first|(with_reducible assumption)|assumption)
     obtain ⟨ad525,e525,hx525_0,hx525_1,hx525_2⟩:=at_T62 HR0_0.out a1 p525 q525
     cases e525
     replace hx525_0:=(HB.out.cell (World.block_lt_of_cell? w _ hx525_0)).trans hx525_0
     replace hx525_1:=(HB.out.cell (World.block_lt_of_cell? w _ hx525_1)).trans hx525_1
     replace hx525_2:=(HB.out.cell (World.block_lt_of_cell? w _ hx525_2)).trans hx525_2
     replace p525:=eq_true p525
     replace q525:=eq_true q525
     go_upto_if 23 with (fail)
     go_cut [5] (fun v5 wc=>∃ (kq:Nat) (x5_12:ByteArray),v5=.string x5_12∧Zz (impl_Trie_text.j1 kq a1 x5_12 l0_0=some r)∧Zz (kq≤kj2)∧Zz (wc.heap[gb522]?=some (.cells #[(.slice (some ad525) l0_0.length c0_0)] 24 (0,0)))∧Zz (Below w.heap.size w wc))
     case first =>
      have H:=HC13.out
      clear HC13
      obtain ⟨bq15,hbq15⟩:∃ b_:Bool,b_=((rT l0_0 a1).f2):=⟨_,rfl⟩
      replace H:(if bq15=true then (if x5_2.size+1≤9223372036854775807 then (impl_Trie_text.j1 kj2 a1 (x5_2 ++ (⟨#[46]⟩:ByteArray)) l0_0) else (none)) else (impl_Trie_text.j1 kj2 a1 x5_2 l0_0))=some r:=by rw [← hbq15] at H;exact H
      have Nbq15:=Zz.mk hbq15
      clear hbq15
      (try rw [← Nbq15.out])
      by_cases c16:bq15=true
      ·subst c16
       have H1:(if x5_2.size+1≤9223372036854775807 then (impl_Trie_text.j1 kj2 a1 (x5_2 ++ (⟨#[46]⟩:ByteArray)) l0_0) else (none))=some r:=by rw [if_pos rfl] at H;exact H
       clear H
       have H:=H1
       clear H1
       by_cases c17:x5_2.size+1≤9223372036854775807
       ·rw [if_pos c17] at H
        have c17b0:=eq_true c17
        have c17b1:decide (x5_2.size+1≤9223372036854775807)=true:=decide_eq_true c17
        try have c17b2:(9223372036854775807<x5_2.size+1)=False:=eq_false (Nat.not_lt.2 c17)
        have H':=Zz.mk H
        clear H
        go_wp2
        go_meet
        case rel=>exact ⟨_,(x5_2 ++ (⟨#[46]⟩:ByteArray)),(by first|rfl|(simp;done)|(simp [*];done)),H',⟨by have:=HJ2.out;first|omega|exact Nat.le_refl _⟩,⟨by (with_reducible repeat first|apply bN|apply bD|apply bA);exact BK522.out⟩,⟨by repeat (first|(with_reducible first|exact HB.out|apply qA|apply qN|apply q1_|refine qS ?_ GE522.out)|exact HB.out)⟩⟩
       ·rw [if_neg c17] at H
        exact absurd H (by simp)
      ·replace c16:=Bool.eq_false_iff.mpr c16
       subst c16
       have H1:(impl_Trie_text.j1 kj2 a1 x5_2 l0_0)=some r:=by rw [if_neg (show ¬ (false=true) by decide)] at H;exact H
       clear H
       have H:=H1
       clear H1
       have H':=Zz.mk H
       clear H
       go_wp2
       go_meet
       case rel=>exact ⟨_,(x5_2),(by first|rfl|(simp;done)|(simp [*];done)),H',⟨by have:=HJ2.out;first|omega|exact Nat.le_refl _⟩,⟨by (with_reducible repeat first|apply bN|apply bD|apply bA);exact BK522.out⟩,⟨by repeat (first|(with_reducible first|exact HB.out|apply qA|apply qN|apply q1_|refine qS ?_ GE522.out)|exact HB.out)⟩⟩
     case rest =>
      clear HC13
      try clear c1
      try clear q1
      try clear p2
      try clear c3
      try clear c5
      try clear c5b0
      try clear p5
      try clear q5
      try clear hx5
      try clear c6
      try clear c6b0
      try clear c7
      try clear c7b0
      try clear c11
      try clear c11b0
      try clear c12
      try clear c12b0
      try clear q15
      try clear c16
      try clear c17
      try clear c17b0
      try clear c17b1
      try clear c17b2
      try clear hcz14_0
      try clear hcz9_0
      try clear hfz14_0
      try clear hfz9_0
      try clear hx523_0
      try clear hx523_1
      try clear hx523_2
      try clear hx525_0
      try clear hx525_1
      try clear hx525_2
      try clear p2
      try clear p5
      try clear p523
      try clear p525
      try clear q5
      try clear q523
      try clear q525
      obtain ⟨kq,x5_12,rfl,HA,HJ12,BK522,HB⟩:=hcut
      cases kq with
      | zero=>exact absurd HA.out (by simp [impl_Trie_text.j1])
      | succ kj12 =>
       have H:=HA.out
       clear HA
       simp only [impl_Trie_text.j1] at H
       replace H:=Option.bind_eq_some_iff.mp H
       obtain ⟨t526,A180,H⟩:=H
       replace H:(if (t526.length:Int)=0 then (some x5_12) else (if x5_12.size+1≤9223372036854775807 then (impl_Trie_text.l0 kj12 (x5_12 ++ (⟨#[40]⟩:ByteArray)) t526 (t526.length:Int) 0 l0_0) else (none)))=some r:=H
       have A18:=Zz.mk A180
       clear A180
       by_cases c19:(t526.length:Int)=0
       ·rw [if_pos c19] at H
        have c19b0:((t526.length:Int) == 0)=true:=beq_iff_eq.mpr c19
        have c19b1:((t526.length:Int) != 0)=false:=bne_eq_false_iff_eq.mpr c19
        clear c19
        obtain rfl:=Option.some.inj H
        have hcz20_0:wc.cell? ⟨gb522,0,none⟩=some (.slice (some ad525) l0_0.length c0_0):=(bC BK522.out 0).trans rfl
        have hfz20_0:=bF BK522.out 0
        go_wp2_with (first|((with_reducible refine gate_callee (f:=38) rfl ?_);refine goesL_ (some 28) rfl rfl Try.func38 (by kernel_rfl) rfl #[.agg #[.slice (some ad525) l0_0.length c0_0],.int .i64 a1] rfl (by (try simp only [List.map_toArray,List.map_cons,List.map_nil]);first|done|rfl|(simp only [List.length_drop,List.length_take];rfl)) ?_;(with_reducible refine (impl_Trie_kids.calls kj12 _ _ l0_0 a1 t526 _ ?side1 ?side2 A18.out).mono ?_);(case side1=>repeat (first|exact (Kd.C_below HR0_0.out HB.out)|(with_reducible refine Kd.C_alloc ?_ _)|(with_reducible refine Kd.C_drewN ?_ _)|(with_reducible refine Kd.C_drew ?_)));(case side2=>exact HC0_0.out);rintro e w21 ⟨v527,rfl,ho0,hb⟩;refine ⟨_,rfl,?_⟩;have n0_:=Zz.mk (Kd.R_lower ho0 (qZ (by repeat (first|(with_reducible first|exact HB.out|apply qA|apply qN|apply q1_|refine qS ?_ GE522.out)|exact HB.out))));have n1_:=Zz.mk (bB (g:=gb522) (o:=.cells #[.slice (some ad525) l0_0.length c0_0] 24 (0,0)) (by (with_reducible repeat first|apply bN|apply bD|apply bA);exact BK522.out) hb);have n2_:=Zz.mk (qP (by repeat (first|(with_reducible first|exact HB.out|apply qA|apply qN|apply q1_|refine qS ?_ GE522.out)|exact HB.out)) hb);clear BK522;clear HB;have HO528:=n0_;have BK522:=n1_;have HB:=n2_;clear n0_ n1_ n2_;(try clear hb);(try clear hb2);(try clear hk);(try clear hi);(try clear ho0);obtain ⟨Ao22,co22,eo22⟩:=Kd.R_slice HO528.out;subst eo22))
        go_ret
        exact ⟨by first|rfl|(simp [errW_none,errW_some] <;> rfl)|(simp [*,errW_none,errW_some] <;> rfl),by repeat (first|(with_reducible first|exact HB.out|apply qA|apply qN|apply q1_|refine qS ?_ GE522.out)|exact HB.out)⟩
       ·rw [if_neg c19] at H
        have c19b0:((t526.length:Int) == 0)=false:=beq_eq_false_iff_ne.mpr c19
        have c19b1:((t526.length:Int) != 0)=true:=bne_iff_ne.mpr c19
        have c19b2:¬ (t526=[]):=fun h_=>c19 (by rw [h_];rfl)
        by_cases c23:x5_12.size+1≤9223372036854775807
        ·rw [if_pos c23] at H
         have c23b0:=eq_true c23
         have c23b1:decide (x5_12.size+1≤9223372036854775807)=true:=decide_eq_true c23
         try have c23b2:(9223372036854775807<x5_12.size+1)=False:=eq_false (Nat.not_lt.2 c23)
         have H':=Zz.mk H
         clear H
         have hcz24_0:wc.cell? ⟨gb522,0,none⟩=some (.slice (some ad525) l0_0.length c0_0):=(bC BK522.out 0).trans rfl
         have hfz24_0:=bF BK522.out 0
         go_wp2_with (first|((with_reducible refine gate_callee (f:=38) rfl ?_);refine goesL_ (some 28) rfl rfl Try.func38 (by kernel_rfl) rfl #[.agg #[.slice (some ad525) l0_0.length c0_0],.int .i64 a1] rfl (by (try simp only [List.map_toArray,List.map_cons,List.map_nil]);first|done|rfl|(simp only [List.length_drop,List.length_take];rfl)) ?_;(with_reducible refine (impl_Trie_kids.calls kj12 _ _ l0_0 a1 t526 _ ?side1 ?side2 A18.out).mono ?_);(case side1=>repeat (first|exact (Kd.C_below HR0_0.out HB.out)|(with_reducible refine Kd.C_alloc ?_ _)|(with_reducible refine Kd.C_drewN ?_ _)|(with_reducible refine Kd.C_drew ?_)));(case side2=>exact HC0_0.out);rintro e w25 ⟨v527,rfl,ho0,hb⟩;refine ⟨_,rfl,?_⟩;have n0_:=Zz.mk (Kd.R_lower ho0 (qZ (by repeat (first|(with_reducible first|exact HB.out|apply qA|apply qN|apply q1_|refine qS ?_ GE522.out)|exact HB.out))));have n1_:=Zz.mk (bB (g:=gb522) (o:=.cells #[.slice (some ad525) l0_0.length c0_0] 24 (0,0)) (by (with_reducible repeat first|apply bN|apply bD|apply bA);exact BK522.out) hb);have n2_:=Zz.mk (qP (by repeat (first|(with_reducible first|exact HB.out|apply qA|apply qN|apply q1_|refine qS ?_ GE522.out)|exact HB.out)) hb);clear BK522;clear HB;have HO528:=n0_;have BK522:=n1_;have HB:=n2_;clear n0_ n1_ n2_;(try clear hb);(try clear hb2);(try clear hk);(try clear hi);(try clear ho0);obtain ⟨Ao26,co26,eo26⟩:=Kd.R_slice HO528.out;subst eo26))
         go_loopg [5,37] kj12 (fun kq v5 v37 w'=>∃ (x5_3:ByteArray) (x37_3:Int),v5=.string x5_3∧v37=.int .i64 x37_3∧Zz (impl_Trie_text.l0 kq x5_3 t526 (t526.length:Int) x37_3 l0_0=some r)∧Zz (kq≤kj12)∧Zz (Kd.R (Kd.int .i64) 3 w' w.heap.size (fun _=>True) (.slice Ao26 t526.length co26) t526)∧Zz (w'.heap[gb522]?=some (.cells #[(.slice (some ad525) l0_0.length c0_0)] 24 (0,0)))∧Zz (Below w.heap.size w w'))
         case atStart=>exact ⟨(x5_12 ++ (⟨#[40]⟩:ByteArray)),(0),(by first|rfl|(simp;done)|(simp [*];done)),(by first|rfl|(simp;done)|(simp [*];done)),H',⟨Nat.le_refl _⟩,⟨by (with_reducible repeat first|apply Kd.R_alloc|apply Kd.R_drewN|apply Kd.R_drew);exact HO528.out⟩,⟨by (with_reducible repeat first|apply bN|apply bD|apply bA);exact BK522.out⟩,⟨by repeat (first|(with_reducible first|exact HB.out|apply qA|apply qN|apply q1_|refine qS ?_ GE522.out)|exact HB.out)⟩⟩
         case round =>
          clear H'
          try clear c1
          try clear q1
          try clear c2
          try clear p2
          try clear c3
          try clear c5
          try clear c5b0
          try clear p5
          try clear q5
          try clear hx5
          try clear c6
          try clear c6b0
          try clear c7
          try clear c7b0
          try clear c11
          try clear c11b0
          try clear c12
          try clear c12b0
          try clear q15
          try clear c16
          try clear c17
          try clear c17b0
          try clear c17b1
          try clear c17b2
          try clear c19
          try clear c19b0
          try clear c19b1
          try clear c19b2
          try clear c23
          try clear c23b0
          try clear c23b1
          try clear c23b2
          try clear hcz14_0
          try clear hcz20_0
          try clear hcz24_0
          try clear hcz9_0
          try clear hfz14_0
          try clear hfz20_0
          try clear hfz24_0
          try clear hfz9_0
          try clear hx523_0
          try clear hx523_1
          try clear hx523_2
          try clear hx525_0
          try clear hx525_1
          try clear hx525_2
          try clear p2
          try clear p5
          try clear p523
          try clear p525
          try clear q1
          try clear q15
          try clear q5
          try clear q523
          try clear q525
          obtain ⟨x5_3,x37_3,rfl,rfl,HA,HK3,HO_35,BK522,HB⟩:=hrel
          cases gk with
          | zero=>exact absurd HA.out (by simp [impl_Trie_text.l0])
          | succ k3 =>
           have H:=HA.out
           clear HA
           simp only [impl_Trie_text.l0] at H
           by_cases c27:x37_3<(t526.length:Int)
           ·rw [if_pos c27] at H
            have c27b0:decide (x37_3<(t526.length:Int))=true:=decide_eq_true c27
            clear c27
            by_cases c28:0≤x37_3
            ·rw [if_pos c28] at H
             have c28b0:decide (0≤x37_3)=true:=decide_eq_true c28
             clear c28
             by_cases c29:x37_3<(t526.length:Int)
             ·rw [if_pos c29] at H
              have c29b0:decide (x37_3<(t526.length:Int))=true:=decide_eq_true c29
              clear c29
              replace H:=Option.bind_eq_some_iff.mp H
              obtain ⟨t530,A300,H⟩:=H
              replace H:(if x5_3.size+t530.size≤9223372036854775807 then (impl_Trie_text.l0 k3 (x5_3 ++ t530) t526 (t526.length:Int) (wrap64 (x37_3+1)) l0_0) else (none))=some r:=H
              have A30:=Zz.mk A300
              clear A300
              by_cases c31:x5_3.size+t530.size≤9223372036854775807
              ·rw [if_pos c31] at H
               have c31b0:=eq_true c31
               have c31b1:decide (x5_3.size+t530.size≤9223372036854775807)=true:=decide_eq_true c31
               try have c31b2:(9223372036854775807<x5_3.size+t530.size)=False:=eq_false (Nat.not_lt.2 c31)
               have H':=Zz.mk H
               clear H
               have p529:0≤(x37_3:Int):=of_decide_eq_true (by first|(with_reducible assumption)|assumption)
               have q529:x37_3<(t526.length:Int):=of_decide_eq_true (by first|(with_reducible assumption)|assumption)
               obtain ⟨ad529,e529,hx529_0⟩:=Kd.at_int (Kd.R_reads' HO_35.out).2.2 x37_3 p529 q529
               cases e529
               replace p529:=eq_true p529
               replace q529:=eq_true q529
               have hcz32_0:wr.cell? ⟨gb522,0,none⟩=some (.slice (some ad525) l0_0.length c0_0):=(bC BK522.out 0).trans rfl
               have hfz32_0:=bF BK522.out 0
               go_wp2_with (first|((with_reducible refine gate_callee (f:=19) rfl ?_);refine goesL_ (some 44) rfl rfl Try.func19 (by kernel_rfl) rfl #[.agg #[.slice (some ad525) l0_0.length c0_0],.int .i64 (rd t526 x37_3)] rfl (by (try simp only [List.map_toArray,List.map_cons,List.map_nil]);first|done|rfl|(simp only [List.length_drop,List.length_take];rfl)) ?_;(with_reducible refine (ih k3 (by have:=HJ2.out;have:=HJ12.out;have:=HK3.out;omega) _ _ l0_0 (rd t526 x37_3) t530 _ ?side1 ?side2 A30.out).mono ?_);(case side1=>repeat (first|exact (Kd.C_below HR0_0.out HB.out)|(with_reducible refine Kd.C_alloc ?_ _)|(with_reducible refine Kd.C_drewN ?_ _)|(with_reducible refine Kd.C_drew ?_)));(case side2=>exact HC0_0.out);rintro e w33 ⟨rfl,hb⟩;refine ⟨_,rfl,?_⟩;have n0_:=Zz.mk (Kd.R_below (by (with_reducible repeat first|apply Kd.R_alloc|apply Kd.R_drewN|apply Kd.R_drew);exact HO_35.out) hb);have n1_:=Zz.mk (bB (g:=gb522) (o:=.cells #[.slice (some ad525) l0_0.length c0_0] 24 (0,0)) (by (with_reducible repeat first|apply bN|apply bD|apply bA);exact BK522.out) hb);have n2_:=Zz.mk (qP (by repeat (first|(with_reducible first|exact HB.out|apply qA|apply qN|apply q1_|refine qS ?_ GE522.out)|exact HB.out)) hb);clear HO_35;clear BK522;clear HB;have HO_35:=n0_;have BK522:=n1_;have HB:=n2_;clear n0_ n1_ n2_;(try clear hb);(try clear hb2);(try clear hk);(try clear hi)))
               go_roundg k3
               case measure=>have:=HJ2.out;have:=HJ12.out;have:=HK3.out;omega
               case rel=>exact ⟨(x5_3 ++ t530),(wrap64 (x37_3+1)),(by first|rfl|(simp;done)|(simp [*];done)),(by first|rfl|(simp;done)|(simp [*];done)),H',⟨by have:=HJ2.out;have:=HJ12.out;have:=HK3.out;omega⟩,⟨by (with_reducible repeat first|apply Kd.R_alloc|apply Kd.R_drewN|apply Kd.R_drew);exact HO_35.out⟩,⟨by (with_reducible repeat first|apply bN|apply bD|apply bA);exact BK522.out⟩,⟨by repeat (first|(with_reducible first|exact HB.out|apply qA|apply qN|apply q1_|refine qS ?_ GE522.out)|exact HB.out)⟩⟩
              ·rw [if_neg c31] at H
               exact absurd H (by simp)
             ·rw [if_neg c29] at H
              exact absurd H (by simp)
            ·rw [if_neg c28] at H
             exact absurd H (by simp)
           ·rw [if_neg c27] at H
            have c27b0:decide (x37_3<(t526.length:Int))=false:=decide_eq_false c27
            clear c27
            by_cases c34:x5_3.size+1≤9223372036854775807
            ·rw [if_pos c34] at H
             have c34b0:=eq_true c34
             have c34b1:decide (x5_3.size+1≤9223372036854775807)=true:=decide_eq_true c34
             try have c34b2:(9223372036854775807<x5_3.size+1)=False:=eq_false (Nat.not_lt.2 c34)
             obtain rfl:=Option.some.inj H
             go_wp2
             go_ret
             exact ⟨by first|rfl|(simp [errW_none,errW_some] <;> rfl)|(simp [*,errW_none,errW_some] <;> rfl),by repeat (first|(with_reducible first|exact HB.out|apply qA|apply qN|apply q1_|refine qS ?_ GE522.out)|exact HB.out)⟩
            ·rw [if_neg c34] at H
             exact absurd H (by simp)
        ·rw [if_neg c23] at H
         exact absurd H (by simp)
    ·rw [if_neg c12] at H
     exact absurd H (by simp)
   ·rw [if_neg c11] at H
    exact absurd H (by simp)
end Go.Proofs.Ytghkbgmbbcaecaa.Q
