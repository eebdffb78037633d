import Derived.Test.YtadpmgdmiaoniaaGreatDoorBwWords
import Derived.Test.YtadpmgdmiaoniaaGreatDoorBwLast
import Derived.Test.YtadpmgdmiaoniaaGreatDoorBwTab
import Derived.Test.YtadpmgdmiaoniaaGreatDoorBwApart
import Derived.Test.YtadpmgdmiaoniaaGreatDoorBwFoot
import Derived.Test.YtadpmgdmiaoniaaGreatDoorBwKept
import Derived.Test.YtadpmgdmiaoniaaGreatDoorBwShare
import Derived.Test.YtadpmgdmiaoniaaGreatDoorBwN
import Derived.Test.YtadpmgdmiaoniaaGreatDoorBwAt
import Derived.Test.YtadpmgdmiaoniaaGreatDoorBwEqStruct
import Derived.Test.YtadpmgdmiaoniaaGreatDoorBwRepsOne
import Derived.Test.YtadpmgdmiaoniaaGreatDoorBwGuard
import Derived.Test.YtadpmgdmiaoniaaGreatDoorBwMore
import Derived.Test.YtadpmgdmiaoniaaGreatDoorProg
import Derived.Below
import Derived.Deep.Draws
import Derived.Deep.AppendLies
import Derived.Maps.AppendAt
import Derived.OwnWalk
import Derived.Laws.BytesArg
import Derived.Laws.MakeOwn
import Derived.Laws.OwnMore
import Derived.Deep.OwnRows
import Derived.Tactics
import Derived.Lib.ConvBytes
import Derived.Laws.Slices
import Derived.WalkKit
import Derived.KernelRfl
import Derived.RowKit3
import Derived.Deep.LoopGhost
import Derived.Deep.QuietTactic
import Derived.BigQuiet
import Derived.WideLaws
import Derived.Deep.DeepCutAuto
import Derived.Deep.CutBlock
import Derived.Deep.RegionHeld3
import Derived.Laws.Rows
import Derived.Lib.AppendStr
import Derived.ArgAppend
import Derived.Laws.IdiomCopy
import Derived.OrdersHeld
import Derived.Laws.BitsLemmas
import Derived.RowKit
set_option linter.unusedVariables false
set_option linter.unusedSimpArgs false
namespace Go.Proofs.YtadpmgdmiaoniaaGreatDoor.Q
open Go.RowKit Go.Proofs.YtadpmgdmiaoniaaGreatDoorW.PrintWords Go.Proofs.YtadpmgdmiaoniaaGreatDoorW.PrintLast Go.Proofs.YtadpmgdmiaoniaaGreatDoorW.PrintMore
attribute [local go_sem] max2_int min2_int max_two min_two max_three min_three max_four min_four   -- for this text's walks alone
set_option linter.unusedVariables false
set_option linter.unusedSimpArgs false
def errW:Option Int→Value
  | none=>.nilIface
  | some c=>.iface 0 (.int .i64 c)
theorem errW_none:errW none=.nilIface:=rfl
theorem errW_some (c:Int):errW (some c)=.iface 0 (.int .i64 c):=rfl
theorem info3:(Tryz.prog.info? 3).map (fun i=>(i.zero,i.size,i.bytes))=some (some (.int .i64 0),1,8):=by kernel_rfl
theorem info9:(Tryz.prog.info? 9).map (fun i=>(i.zero,i.size,i.bytes))=some (some (.string ⟨#[]⟩),1,16):=by kernel_rfl
theorem info70:(Tryz.prog.info? 70).map (fun i=>(i.zero,i.size,i.bytes))=some (some (.agg #[(.int .i64 0),(.int .i64 0),(.bool false)]),3,24):=by kernel_rfl
structure S70 where
  f0:Int
  f1:Int
  f2:Bool
def z70:S70:=⟨(0:Int),(0:Int),false⟩
def k70:Kd S70:=Kd.iso (Kd.pair (Kd.int .i64) (Kd.pair (Kd.int .i64) Kd.bool)) (fun x:S70=>(x.f0,x.f1,x.f2))
theorem k70_open {w:World} {x:S70} {cs:List Value} (h:k70.K w x cs):cs=[.int .i64 x.f0,.int .i64 x.f1,.bool x.f2]:=by
  obtain ⟨_,_,rfl,rfl,⟨_,_,rfl,rfl,rfl⟩⟩:=h
  exact rfl
theorem k70_openM {w:World} {base:Nat} {ok:Nat→Prop} {x:S70} {cs:List Value} (h:k70.M w base ok x cs):cs=[.int .i64 x.f0,.int .i64 x.f1,.bool x.f2]:=by
  obtain ⟨_,_,rfl,rfl,⟨_,_,rfl,rfl,rfl⟩⟩:=h
  exact rfl
theorem k70_mkM (w:World) (base:Nat) (ok:Nat→Prop) (x:S70)  : k70.M w base ok x [.int .i64 x.f0,.int .i64 x.f1,.bool x.f2]:=⟨[.int .i64 x.f0],[.int .i64 x.f1,.bool x.f2],rfl,rfl,⟨[.int .i64 x.f1],[.bool x.f2],rfl,rfl,rfl⟩⟩
def rd_T70 (xs:List S70) (i:Int):S70:=xs.getD i.toNat z70
theorem at_T70 {w:World} {A:Option Addr} {n:Nat} {xs:List S70} (h:Kd.C k70 w A n xs) (i:Int) (h0:0≤i) (h1:i<n):∃ ad ,A=some ad∧w.cell? (ad.add (i.toNat * 3))=some (.int .i64 (rd_T70 xs i).f0)∧w.cell? ⟨(ad.add (i.toNat * 3)).block,(ad.add (i.toNat * 3)).off+1,none⟩=some (.int .i64 (rd_T70 xs i).f1)∧w.cell? ⟨(ad.add (i.toNat * 3)).block,(ad.add (i.toNat * 3)).off+2,none⟩=some (.bool (rd_T70 xs i).f2):=by
  obtain ⟨ad,c,e,_,hK,hc0⟩:=Kd.C_get h z70 i h0 h1
  have hc:∀ j u,c[j]?=some u→w.cell? (ad.add (i.toNat * 3+j))=some u:=hc0
  obtain rfl:=k70_open hK
  exact ⟨ad,e,hc 0 _ rfl,by rw [← add_field _ _ 1 (by omega)];exact hc 1 _ rfl,by rw [← add_field _ _ 2 (by omega)];exact hc 2 _ rfl⟩
structure S75 where
  f0:Int
  f1:Int
  f2:Bool
def z75:S75:=⟨(0:Int),(0:Int),false⟩
def k75:Kd S75:=Kd.iso (Kd.pair (Kd.int .i64) (Kd.pair (Kd.int .i64) Kd.bool)) (fun x:S75=>(x.f0,x.f1,x.f2))
theorem k75_open {w:World} {x:S75} {cs:List Value} (h:k75.K w x cs):cs=[.int .i64 x.f0,.int .i64 x.f1,.bool x.f2]:=by
  obtain ⟨_,_,rfl,rfl,⟨_,_,rfl,rfl,rfl⟩⟩:=h
  exact rfl
theorem k75_mk (w:World) (x:S75)  : k75.K w x [.int .i64 x.f0,.int .i64 x.f1,.bool x.f2]:=⟨[.int .i64 x.f0],[.int .i64 x.f1,.bool x.f2],rfl,rfl,⟨[.int .i64 x.f1],[.bool x.f2],rfl,rfl,rfl⟩⟩
def rd_T75 (xs:List S75) (i:Int):S75:=xs.getD i.toNat z75
theorem at_T75 {w:World} {A:Option Addr} {n:Nat} {xs:List S75} (h:Kd.C k75 w A n xs) (i:Int) (h0:0≤i) (h1:i<n):∃ ad ,A=some ad∧w.cell? (ad.add (i.toNat * 3))=some (.int .i64 (rd_T75 xs i).f0)∧w.cell? ⟨(ad.add (i.toNat * 3)).block,(ad.add (i.toNat * 3)).off+1,none⟩=some (.int .i64 (rd_T75 xs i).f1)∧w.cell? ⟨(ad.add (i.toNat * 3)).block,(ad.add (i.toNat * 3)).off+2,none⟩=some (.bool (rd_T75 xs i).f2):=by
  obtain ⟨ad,c,e,_,hK,hc0⟩:=Kd.C_get h z75 i h0 h1
  have hc:∀ j u,c[j]?=some u→w.cell? (ad.add (i.toNat * 3+j))=some u:=hc0
  obtain rfl:=k75_open hK
  exact ⟨ad,e,hc 0 _ rfl,by rw [← add_field _ _ 1 (by omega)];exact hc 1 _ rfl,by rw [← add_field _ _ 2 (by omega)];exact hc 2 _ rfl⟩
def rd_L9 (xs:List (List Int)) (i:Int):(List Int):=xs.getD i.toNat ([]:List Int)
theorem at_L9 {w:World} {A:Option Addr} {n:Nat} {xs:List (List Int)} (h:Kd.C (Kd.slice 3 (Kd.int .i64)) w A n xs) (i:Int) (h0:0≤i) (h1:i<n):∃ ad A0 c0,A=some ad∧w.cell? (ad.add i.toNat)=some (.slice A0 (rd_L9 xs i).length c0)∧(rd_L9 xs i).length≤c0∧(Kd.int .i64).C w A0 (rd_L9 xs i).length (rd_L9 xs i):=by
  obtain ⟨ad,c,e,_,hK,hc0⟩:=Kd.C_get h ([]:List Int) i h0 h1
  have hc:∀ j u,c[j]?=some u→w.cell? (ad.add (i.toNat * 1+j))=some u:=hc0
  obtain ⟨A0,c0,rfl,l0,g0⟩:=hK
  exact ⟨ad,A0,c0,e,by have hq:=hc 0 _ rfl;rwa [Nat.mul_one,Nat.add_zero] at hq,l0,g0⟩
theorem R_same_ {α:Type} {d:Kd α} {e:Nat} {w w1:World} {base:Nat} {ok:Nat→Prop} {v:Value} {xs:List α} (h:Kd.R d e w base ok v xs) (hh:w1.heap=w.heap):Kd.R d e w1 base ok v xs:=Kd.R_step h (fun k _ _=>by rw [hh])
theorem V_same_ {α:Type} {d:Kd α} {e:Nat} {w w1:World} {base:Nat} {ok:Nat→Prop} {v:Value} {xs:List α} (h:Kd.V d e w base ok v xs) (hh:w1.heap=w.heap):Kd.V d e w1 base ok v xs:=Kd.V_step h (fun k _ _=>by rw [hh])
def Sep (u v:Value):Prop:=∀ k,u.ownBlock=some k→v.ownBlock=some k→False
theorem Sep.symm {u v:Value} (h:Sep u v):Sep v u:=fun k a b=>h k b a
theorem isSome_setCell (w:World) (a b:Addr) (v:Value):((w.setCell a v).cell? b).isSome=(w.cell? b).isSome:=by
  by_cases e:a=b
  · subst e
    simp only [World.setCell,World.cell?,Array.getElem?_modify,↓reduceIte]
    cases w.heap[a.block]? with
    | none=>rfl
    | some o =>
      cases o with
      | cells c t f =>
        simp only [Option.map_some]
        cases a.spot with
        | some z=>simp
        | none=>by_cases h:a.off<c.size <;> simp [h]
      | _=>rfl
  · rw [World.cell?_setCell_other _ _ _ _ e]
theorem run_field_23 (v:Value) (w:World):Sem.run Tryz.prog (Instr.field 23 (.agg #[v]) 0) w=.ok v w:=by kernel_rfl
theorem run_field_24 (v:Value) (w:World):Sem.run Tryz.prog (Instr.field 24 (.agg #[v]) 0) w=.ok v w:=by kernel_rfl
theorem run_field_30 (v:Value) (w:World):Sem.run Tryz.prog (Instr.field 30 (.agg #[v]) 0) w=.ok v w:=by kernel_rfl
theorem run_field_31 (v:Value) (w:World):Sem.run Tryz.prog (Instr.field 31 (.agg #[v]) 0) w=.ok v w:=by kernel_rfl
end Go.Proofs.YtadpmgdmiaoniaaGreatDoor.Q
namespace Go.Proofs.YtadpmgdmiaoniaaGreatDoor.Q
open Go.RowKit Go.Proofs.YtadpmgdmiaoniaaGreatDoorW.PrintWords Go.Proofs.YtadpmgdmiaoniaaGreatDoorW.PrintLast Go.Proofs.YtadpmgdmiaoniaaGreatDoorW.PrintMore
attribute [local go_sem] run_field_23 run_field_24 run_field_30 run_field_31 isSome_setCell max2_int min2_int max_two min_two max_three min_three max_four min_four   -- for this text's walks alone
set_option linter.unusedVariables false
set_option linter.unusedSimpArgs false
def cmp_isNaN_string.f (a0:ByteArray):Option (Bool):=some (a0.toList != a0.toList)
set_option maxHeartbeats 8000000 in
set_option maxRecDepth 100000 in
theorem cmp_isNaN_string.calls (a0:ByteArray) (r:Bool) (w:World) (h:cmp_isNaN_string.f a0=some r) :
  Calls Tryz.prog 100 #[.string a0] w fun e w'=>e=.returned (.bool r)∧Drawn0 w w':=by
 have H:(some (a0.toList != a0.toList))=some r:=h
 clear h
 obtain rfl:=Option.some.inj H
 go_enter Tryz.func100,Tryz.ntmps100
 go_wp2
 go_ret
 exact ⟨by first|rfl|(simp;done)|(simp [*];done),by repeat (first|exact Drawn0.refl _|apply Drawn0.step)⟩
def cmp_Less_string.f (a0:ByteArray) (a1:ByteArray):Option (Bool):=(cmp_isNaN_string.f a0).bind fun t101=>(if t101=true then ((cmp_isNaN_string.f a1).bind fun t102=>(if t102=true then (some (Op.bytesLess a0.toList a1.toList)) else (some true))) else (some (Op.bytesLess a0.toList a1.toList)))
set_option maxHeartbeats 8000000 in
set_option maxRecDepth 100000 in
theorem cmp_Less_string.calls (a0:ByteArray) (a1:ByteArray) (r:Bool) (w:World) (h:cmp_Less_string.f a0 a1=some r) :
  Calls Tryz.prog 80 #[.string a0,.string a1] w fun e w'=>e=.returned (.bool r)∧Drawn0 w w':=by
 have H:((cmp_isNaN_string.f a0).bind fun t101=>(if t101=true then ((cmp_isNaN_string.f a1).bind fun t102=>(if t102=true then (some (Op.bytesLess a0.toList a1.toList)) else (some true))) else (some (Op.bytesLess a0.toList a1.toList))))=some r:=h
 clear h
 replace H:=Option.bind_eq_some_iff.mp H
 obtain ⟨t101,A30,H⟩:=H
 replace H:(if t101=true then ((cmp_isNaN_string.f a1).bind fun t102=>(if t102=true then (some (Op.bytesLess a0.toList a1.toList)) else (some true))) else (some (Op.bytesLess a0.toList a1.toList)))=some r:=H
 have A3:=Zz.mk A30
 clear A30
 by_cases c4:t101=true
 ·subst c4
  have H1:((cmp_isNaN_string.f a1).bind fun t102=>(if t102=true then (some (Op.bytesLess a0.toList a1.toList)) else (some true)))=some r:=by rw [if_pos rfl] at H;exact H
  clear H
  have H:=H1
  clear H1
  replace H:=Option.bind_eq_some_iff.mp H
  obtain ⟨t102,A50,H⟩:=H
  replace H:(if t102=true then (some (Op.bytesLess a0.toList a1.toList)) else (some true))=some r:=H
  have A5:=Zz.mk A50
  clear A50
  by_cases c6:t102=true
  ·subst c6
   have H1:(some (Op.bytesLess a0.toList a1.toList))=some r:=by rw [if_pos rfl] at H;exact H
   clear H
   have H:=H1
   clear H1
   obtain rfl:=Option.some.inj H
   go_enter Tryz.func80,Tryz.ntmps80
   go_wp2_with (first|((with_reducible refine gate_callee (f:=100) rfl ?_);refine goesL_ (some 6) rfl rfl Tryz.func100 (by kernel_rfl) rfl #[.string a0] rfl (by (try simp only [List.map_toArray,List.map_cons,List.map_nil]);first|done|rfl|(simp only [List.length_drop,List.length_take];rfl)) ?_;(with_reducible refine (cmp_isNaN_string.calls a0 true _ A3.out).mono ?_);rintro e w' ⟨rfl,⟨nd,rfl⟩⟩;refine ⟨_,rfl,?_⟩)|(go_at_call 100;(with_reducible refine (cmp_isNaN_string.calls a1 true _ A5.out).mono ?_);rintro e w' ⟨rfl,⟨nd,rfl⟩⟩))
   go_ret
   exact ⟨by first|rfl|(simp;done)|(simp [*];done),by repeat (first|exact Drawn0.refl _|apply Drawn0.step)⟩
  ·replace c6:=Bool.eq_false_iff.mpr c6
   subst c6
   have H1:(some true)=some r:=by rw [if_neg (show ¬ (false=true) by decide)] at H;exact H
   clear H
   have H:=H1
   clear H1
   obtain rfl:=Option.some.inj H
   go_enter Tryz.func80,Tryz.ntmps80
   go_wp2_with (first|((with_reducible refine gate_callee (f:=100) rfl ?_);refine goesL_ (some 6) rfl rfl Tryz.func100 (by kernel_rfl) rfl #[.string a0] rfl (by (try simp only [List.map_toArray,List.map_cons,List.map_nil]);first|done|rfl|(simp only [List.length_drop,List.length_take];rfl)) ?_;(with_reducible refine (cmp_isNaN_string.calls a0 true _ A3.out).mono ?_);rintro e w' ⟨rfl,⟨nd,rfl⟩⟩;refine ⟨_,rfl,?_⟩)|(go_at_call 100;(with_reducible refine (cmp_isNaN_string.calls a1 false _ A5.out).mono ?_);rintro e w' ⟨rfl,⟨nd,rfl⟩⟩))
   go_ret
   exact ⟨by first|rfl|(simp;done)|(simp [*];done),by repeat (first|exact Drawn0.refl _|apply Drawn0.step)⟩
 ·replace c4:=Bool.eq_false_iff.mpr c4
  subst c4
  have H1:(some (Op.bytesLess a0.toList a1.toList))=some r:=by rw [if_neg (show ¬ (false=true) by decide)] at H;exact H
  clear H
  have H:=H1
  clear H1
  obtain rfl:=Option.some.inj H
  go_enter Tryz.func80,Tryz.ntmps80
  go_wp2_with (first|((with_reducible refine gate_callee (f:=100) rfl ?_);refine goesL_ (some 6) rfl rfl Tryz.func100 (by kernel_rfl) rfl #[.string a0] rfl (by (try simp only [List.map_toArray,List.map_cons,List.map_nil]);first|done|rfl|(simp only [List.length_drop,List.length_take];rfl)) ?_;(with_reducible refine (cmp_isNaN_string.calls a0 false _ A3.out).mono ?_);rintro e w' ⟨rfl,⟨nd,rfl⟩⟩;refine ⟨_,rfl,?_⟩))
  go_ret
  exact ⟨by first|rfl|(simp;done)|(simp [*];done),by repeat (first|exact Drawn0.refl _|apply Drawn0.step)⟩
def slices_isNaN_string.f (a0:ByteArray):Option (Bool):=some (a0.toList != a0.toList)
set_option maxHeartbeats 8000000 in
set_option maxRecDepth 100000 in
theorem slices_isNaN_string.calls (a0:ByteArray) (r:Bool) (w:World) (h:slices_isNaN_string.f a0=some r) :
  Calls Tryz.prog 104 #[.string a0] w fun e w'=>e=.returned (.bool r)∧Drawn0 w w':=by
 have H:(some (a0.toList != a0.toList))=some r:=h
 clear h
 obtain rfl:=Option.some.inj H
 go_enter Tryz.func104,Tryz.ntmps104
 go_wp2
 go_ret
 exact ⟨by first|rfl|(simp;done)|(simp [*];done),by repeat (first|exact Drawn0.refl _|apply Drawn0.step)⟩
def slices_BinarySearch_string_string.l0:Nat→List ByteArray→ByteArray→Int→Int→Int→Option (Int × Bool)
 | 0,_,_,_,_,_=>none
 | k+1,x0,x1,x6,x7,x8=>if x7<x8 then (if 0≤(wrap64 ((IntKind.u64.wrap (wrap64 (x7+x8))) / 2)) then (if (wrap64 ((IntKind.u64.wrap (wrap64 (x7+x8))) / 2))<(x0.length:Int) then ((cmp_Less_string.f (rdOf ByteArray.empty x0 (wrap64 ((IntKind.u64.wrap (wrap64 (x7+x8))) / 2))) x1).bind fun t104=>(if t104=true then (slices_BinarySearch_string_string.l0 k x0 x1 x6 (wrap64 ((wrap64 ((IntKind.u64.wrap (wrap64 (x7+x8))) / 2))+1)) x8) else (slices_BinarySearch_string_string.l0 k x0 x1 x6 x7 (wrap64 ((IntKind.u64.wrap (wrap64 (x7+x8))) / 2))))) else (none)) else (none)) else (if x7<x6 then (if 0≤x7 then (if x7<(x0.length:Int) then (if (rdOf ByteArray.empty x0 x7).toList=x1.toList then (some (x7,true)) else ((slices_isNaN_string.f (rdOf ByteArray.empty x0 x7)).bind fun t107=>(if t107=true then ((slices_isNaN_string.f x1).bind fun t108=>(some (x7,t108))) else (some (x7,false))))) else (none)) else (none)) else (some (x7,false)))
def slices_BinarySearch_string_string.f (k:Nat) (l0:List ByteArray) (a1:ByteArray):Option (Int × Bool):=slices_BinarySearch_string_string.l0 k l0 a1 (l0.length:Int) 0 (l0.length:Int)
set_option maxHeartbeats 8000000 in
set_option maxRecDepth 100000 in
theorem slices_BinarySearch_string_string.calls (k:Nat) (A0:Option Addr) (c0:Nat) (l0:List ByteArray) (a1:ByteArray) (r1:Int) (r2:Bool) (w:World) (hr0:Kd.C Kd.string w A0 l0.length l0) (hc0:l0.length≤c0) (h:slices_BinarySearch_string_string.f k l0 a1=some (r1,r2)) :
  Calls Tryz.prog 82 #[.slice A0 l0.length c0,.string a1] w fun e w'=>e=.returned (.tuple #[.int .i64 r1,.bool r2])∧Drawn0 w w':=by
 have HR0:=Zz.mk hr0
 have HC0:=Zz.mk hc0
 clear hr0 hc0
 have H:(slices_BinarySearch_string_string.l0 k l0 a1 (l0.length:Int) 0 (l0.length:Int))=some (r1,r2):=h
 clear h
 have H':=Zz.mk H
 clear H
 go_enter Tryz.func82,Tryz.ntmps82
 go_wp2
 go_loopg [7,8] k (fun kq v7 v8 w'=>∃ (x7_1:Int) (x8_1:Int),v7=.int .i64 x7_1∧v8=.int .i64 x8_1∧Zz (slices_BinarySearch_string_string.l0 kq l0 a1 (l0.length:Int) x7_1 x8_1=some (r1,r2))∧Zz (kq≤k)∧Drawn0 w w')
 case atStart=>exact ⟨(0),((l0.length:Int)),(by first|rfl|(simp;done)|(simp [*];done)),(by first|rfl|(simp;done)|(simp [*];done)),H',⟨Nat.le_refl _⟩,by repeat (first|exact Drawn0.refl _|apply Drawn0.step)⟩
 case round =>
  clear H'
  try clear p2
  obtain ⟨x7_1,x8_1,rfl,rfl,HA,HK1,⟨m1,rfl⟩⟩:=hrel
  cases gk with
  | zero=>exact absurd HA.out (by simp [slices_BinarySearch_string_string.l0])
  | succ k1 =>
   have H:=HA.out
   clear HA
   simp only [slices_BinarySearch_string_string.l0] at H
   by_cases c3:x7_1<x8_1
   ·rw [if_pos c3] at H
    have c3b0:decide (x7_1<x8_1)=true:=decide_eq_true c3
    clear c3
    obtain ⟨ji4,hji4⟩:∃ j_:Int,(wrap64 ((IntKind.u64.wrap (wrap64 (x7_1+x8_1))) / 2))=j_:=⟨_,rfl⟩
    replace H:(if 0≤(ji4) then (if (ji4)<(l0.length:Int) then ((cmp_Less_string.f (rdOf ByteArray.empty l0 (ji4)) a1).bind fun t104=>(if t104=true then (slices_BinarySearch_string_string.l0 k1 l0 a1 (l0.length:Int) (wrap64 ((ji4)+1)) x8_1) else (slices_BinarySearch_string_string.l0 k1 l0 a1 (l0.length:Int) x7_1 ji4))) else (none)) else (none))=some (r1,r2):=by first|(rw [hji4] at H;exact H)|(simp only [hji4] at H ⊢;exact H)
    have hji4w:(IntKind.i64.wrap ((IntKind.u64.wrap (wrap64 (x7_1+x8_1))) / 2))=ji4:=(i64_w _).trans hji4
    by_cases c5:0≤(ji4)
    ·rw [if_pos c5] at H
     have c5b0:decide (0≤(ji4))=true:=decide_eq_true c5
     clear c5
     by_cases c6:(ji4)<(l0.length:Int)
     ·rw [if_pos c6] at H
      have c6b0:decide ((ji4)<(l0.length:Int))=true:=decide_eq_true c6
      clear c6
      replace H:=Option.bind_eq_some_iff.mp H
      obtain ⟨t104,A70,H⟩:=H
      replace H:(if t104=true then (slices_BinarySearch_string_string.l0 k1 l0 a1 (l0.length:Int) (wrap64 ((ji4)+1)) x8_1) else (slices_BinarySearch_string_string.l0 k1 l0 a1 (l0.length:Int) x7_1 ji4))=some (r1,r2):=H
      have A7:=Zz.mk A70
      clear A70
      by_cases c8:t104=true
      ·subst c8
       have H1:(slices_BinarySearch_string_string.l0 k1 l0 a1 (l0.length:Int) (wrap64 ((ji4)+1)) x8_1)=some (r1,r2):=by rw [if_pos rfl] at H;exact H
       clear H
       have H:=H1
       clear H1
       have H':=Zz.mk H
       clear H
       have p103:0≤((ji4):Int):=of_decide_eq_true (by first|(with_reducible assumption)|assumption)
       have q103:(ji4)<(l0.length:Int):=of_decide_eq_true (by first|(with_reducible assumption)|assumption)
       obtain ⟨ad103,e103,hx103_0⟩:=Kd.at_string HR0.out (ji4) p103 q103
       cases e103
       replace p103:=eq_true p103
       replace q103:=eq_true q103
       go_wp2_with (first|((with_reducible refine gate_callee (f:=80) rfl ?_);refine goesL_ (some 27) rfl rfl Tryz.func80 (by kernel_rfl) rfl #[.string (rdOf ByteArray.empty l0 (ji4)),.string a1] rfl (by (try simp only [List.map_toArray,List.map_cons,List.map_nil]);first|done|(simp only [hji4];rfl)|rfl|(simp only [List.length_drop,List.length_take];rfl)) ?_;(with_reducible refine (cmp_Less_string.calls (rdOf ByteArray.empty l0 (ji4)) a1 true _ A7.out).mono ?_);rintro e w' ⟨rfl,⟨nd,rfl⟩⟩;refine ⟨_,rfl,?_⟩))
       go_roundg k1
       case measure=>have:=HK1.out;omega
       case rel=>exact ⟨(wrap64 ((ji4)+1)),(x8_1),(by first|rfl|(simp;done)|(simp only [← hji4] <;> (first|rfl|simp))|(simp [*];done)),(by first|rfl|(simp;done)|(simp [*];done)),H',⟨by have:=HK1.out;omega⟩,by repeat (first|exact Drawn0.refl _|apply Drawn0.step)⟩
      ·replace c8:=Bool.eq_false_iff.mpr c8
       subst c8
       have H1:(slices_BinarySearch_string_string.l0 k1 l0 a1 (l0.length:Int) x7_1 ji4)=some (r1,r2):=by rw [if_neg (show ¬ (false=true) by decide)] at H;exact H
       clear H
       have H:=H1
       clear H1
       have H':=Zz.mk H
       clear H
       have p103:0≤((ji4):Int):=of_decide_eq_true (by first|(with_reducible assumption)|assumption)
       have q103:(ji4)<(l0.length:Int):=of_decide_eq_true (by first|(with_reducible assumption)|assumption)
       obtain ⟨ad103,e103,hx103_0⟩:=Kd.at_string HR0.out (ji4) p103 q103
       cases e103
       replace p103:=eq_true p103
       replace q103:=eq_true q103
       go_wp2_with (first|((with_reducible refine gate_callee (f:=80) rfl ?_);refine goesL_ (some 27) rfl rfl Tryz.func80 (by kernel_rfl) rfl #[.string (rdOf ByteArray.empty l0 (ji4)),.string a1] rfl (by (try simp only [List.map_toArray,List.map_cons,List.map_nil]);first|done|(simp only [hji4];rfl)|rfl|(simp only [List.length_drop,List.length_take];rfl)) ?_;(with_reducible refine (cmp_Less_string.calls (rdOf ByteArray.empty l0 (ji4)) a1 false _ A7.out).mono ?_);rintro e w' ⟨rfl,⟨nd,rfl⟩⟩;refine ⟨_,rfl,?_⟩))
       go_roundg k1
       case measure=>have:=HK1.out;omega
       case rel=>exact ⟨(x7_1),(ji4),(by first|rfl|(simp;done)|(simp [*];done)),(by first|rfl|(simp;done)|(simp only [← hji4] <;> (first|rfl|simp))|(simp [*];done)),H',⟨by have:=HK1.out;omega⟩,by repeat (first|exact Drawn0.refl _|apply Drawn0.step)⟩
     ·rw [if_neg c6] at H
      exact absurd H (by simp)
    ·rw [if_neg c5] at H
     exact absurd H (by simp)
   ·rw [if_neg c3] at H
    have c3b0:decide (x7_1<x8_1)=false:=decide_eq_false c3
    clear c3
    by_cases c9:x7_1<(l0.length:Int)
    ·rw [if_pos c9] at H
     have c9b0:decide (x7_1<(l0.length:Int))=true:=decide_eq_true c9
     clear c9
     by_cases c10:0≤x7_1
     ·rw [if_pos c10] at H
      have c10b0:decide (0≤x7_1)=true:=decide_eq_true c10
      clear c10
      by_cases c11:x7_1<(l0.length:Int)
      ·rw [if_pos c11] at H
       have c11b0:decide (x7_1<(l0.length:Int))=true:=decide_eq_true c11
       clear c11
       by_cases c12:(rdOf ByteArray.empty l0 x7_1).toList=a1.toList
       ·rw [if_pos c12] at H
        have c12b0:((rdOf ByteArray.empty l0 x7_1).toList == a1.toList)=true:=beq_iff_eq.mpr c12
        have c12b1:((rdOf ByteArray.empty l0 x7_1).toList != a1.toList)=false:=bne_eq_false_iff_eq.mpr c12
        clear c12
        simp only [Option.some.injEq,Prod.mk.injEq] at H
        obtain ⟨rfl,rfl⟩:=H
        have p105:0≤(x7_1:Int):=of_decide_eq_true (by first|(with_reducible assumption)|assumption)
        have q105:x7_1<(l0.length:Int):=of_decide_eq_true (by first|(with_reducible assumption)|assumption)
        obtain ⟨ad105,e105,hx105_0⟩:=Kd.at_string HR0.out x7_1 p105 q105
        cases e105
        replace p105:=eq_true p105
        replace q105:=eq_true q105
        go_wp2
        go_ret2
        exact ⟨by first|rfl|(simp;done)|(simp [*];done),by repeat (first|exact Drawn0.refl _|apply Drawn0.step)⟩
       ·rw [if_neg c12] at H
        have c12b0:((rdOf ByteArray.empty l0 x7_1).toList == a1.toList)=false:=beq_eq_false_iff_ne.mpr c12
        have c12b1:((rdOf ByteArray.empty l0 x7_1).toList != a1.toList)=true:=bne_iff_ne.mpr c12
        replace H:=Option.bind_eq_some_iff.mp H
        obtain ⟨t107,A130,H⟩:=H
        replace H:(if t107=true then ((slices_isNaN_string.f a1).bind fun t108=>(some (x7_1,t108))) else (some (x7_1,false)))=some (r1,r2):=H
        have A13:=Zz.mk A130
        clear A130
        by_cases c14:t107=true
        ·subst c14
         have H1:((slices_isNaN_string.f a1).bind fun t108=>(some (x7_1,t108)))=some (r1,r2):=by rw [if_pos rfl] at H;exact H
         clear H
         have H:=H1
         clear H1
         replace H:=Option.bind_eq_some_iff.mp H
         obtain ⟨t108,A150,H⟩:=H
         replace H:(some (x7_1,t108))=some (r1,r2):=H
         have A15:=Zz.mk A150
         clear A150
         simp only [Option.some.injEq,Prod.mk.injEq] at H
         obtain ⟨rfl,rfl⟩:=H
         have p105:0≤(x7_1:Int):=of_decide_eq_true (by first|(with_reducible assumption)|assumption)
         have q105:x7_1<(l0.length:Int):=of_decide_eq_true (by first|(with_reducible assumption)|assumption)
         obtain ⟨ad105,e105,hx105_0⟩:=Kd.at_string HR0.out x7_1 p105 q105
         cases e105
         replace p105:=eq_true p105
         replace q105:=eq_true q105
         have p106:0≤(x7_1:Int):=of_decide_eq_true (by first|(with_reducible assumption)|assumption)
         have q106:x7_1<(l0.length:Int):=of_decide_eq_true (by first|(with_reducible assumption)|assumption)
         obtain ⟨ad106,e106,hx106_0⟩:=Kd.at_string HR0.out x7_1 p106 q106
         obtain rfl:ad105=ad106:=(by injection e106)
         replace p106:=eq_true p106
         replace q106:=eq_true q106
         go_wp2_with (first|(go_at_call 104;(with_reducible refine (slices_isNaN_string.calls (rdOf ByteArray.empty l0 x7_1) true _ A13.out).mono ?_);rintro e w' ⟨rfl,⟨nd,rfl⟩⟩)|(go_at_call 104;(with_reducible refine (slices_isNaN_string.calls a1 t108 _ A15.out).mono ?_);rintro e w' ⟨rfl,⟨nd,rfl⟩⟩))
         go_ret2
         exact ⟨by first|rfl|(simp;done)|(simp [*];done),by repeat (first|exact Drawn0.refl _|apply Drawn0.step)⟩
        ·replace c14:=Bool.eq_false_iff.mpr c14
         subst c14
         have H1:(some (x7_1,false))=some (r1,r2):=by rw [if_neg (show ¬ (false=true) by decide)] at H;exact H
         clear H
         have H:=H1
         clear H1
         simp only [Option.some.injEq,Prod.mk.injEq] at H
         obtain ⟨rfl,rfl⟩:=H
         have p105:0≤(x7_1:Int):=of_decide_eq_true (by first|(with_reducible assumption)|assumption)
         have q105:x7_1<(l0.length:Int):=of_decide_eq_true (by first|(with_reducible assumption)|assumption)
         obtain ⟨ad105,e105,hx105_0⟩:=Kd.at_string HR0.out x7_1 p105 q105
         cases e105
         replace p105:=eq_true p105
         replace q105:=eq_true q105
         have p106:0≤(x7_1:Int):=of_decide_eq_true (by first|(with_reducible assumption)|assumption)
         have q106:x7_1<(l0.length:Int):=of_decide_eq_true (by first|(with_reducible assumption)|assumption)
         obtain ⟨ad106,e106,hx106_0⟩:=Kd.at_string HR0.out x7_1 p106 q106
         obtain rfl:ad105=ad106:=(by injection e106)
         replace p106:=eq_true p106
         replace q106:=eq_true q106
         go_wp2_with (first|(go_at_call 104;(with_reducible refine (slices_isNaN_string.calls (rdOf ByteArray.empty l0 x7_1) false _ A13.out).mono ?_);rintro e w' ⟨rfl,⟨nd,rfl⟩⟩))
         go_ret2
         exact ⟨by first|rfl|(simp;done)|(simp [*];done),by repeat (first|exact Drawn0.refl _|apply Drawn0.step)⟩
      ·rw [if_neg c11] at H
       exact absurd H (by simp)
     ·rw [if_neg c10] at H
      exact absurd H (by simp)
    ·rw [if_neg c9] at H
     have c9b0:decide (x7_1<(l0.length:Int))=false:=decide_eq_false c9
     clear c9
     simp only [Option.some.injEq,Prod.mk.injEq] at H
     obtain ⟨rfl,rfl⟩:=H
     go_wp2
     go_ret2
     exact ⟨by first|rfl|(simp;done)|(simp [*];done),by repeat (first|exact Drawn0.refl _|apply Drawn0.step)⟩
def impl_in.f (a0:Int) (a1:Int) (a2:Int):Option (Bool):=if a0 ≥ a1 then (some (decide (a0≤a2))) else (some false)
set_option maxHeartbeats 8000000 in
set_option maxRecDepth 100000 in
theorem impl_in.calls (a0:Int) (a1:Int) (a2:Int) (r:Bool) (w:World) (h:impl_in.f a0 a1 a2=some r) :
  Calls Tryz.prog 77 #[.int .i64 a0,.int .i64 a1,.int .i64 a2] w fun e w'=>e=.returned (.bool r)∧Drawn0 w w':=by
 have H:(if a0 ≥ a1 then (some (decide (a0≤a2))) else (some false))=some r:=h
 clear h
 by_cases c4:a0 ≥ a1
 ·rw [if_pos c4] at H
  have c4b0:decide (a1≤a0)=true:=decide_eq_true c4
  clear c4
  obtain rfl:=Option.some.inj H
  go_enter Tryz.func77,Tryz.ntmps77
  go_wp2
  go_ret
  exact ⟨by first|rfl|(simp;done)|(simp [*];done),by repeat (first|exact Drawn0.refl _|apply Drawn0.step)⟩
 ·rw [if_neg c4] at H
  have c4b0:decide (a1≤a0)=false:=decide_eq_false c4
  clear c4
  obtain rfl:=Option.some.inj H
  go_enter Tryz.func77,Tryz.ntmps77
  go_wp2
  go_ret
  exact ⟨by first|rfl|(simp;done)|(simp [*];done),by repeat (first|exact Drawn0.refl _|apply Drawn0.step)⟩
def impl_letter.f (a0:Int):Option (ByteArray):=some (strOfNums (([(wrap64 (97+a0)) % 256]:List Int)))
set_option maxHeartbeats 8000000 in
set_option maxRecDepth 100000 in
theorem impl_letter.calls (a0:Int) (r:ByteArray) (w:World) (h:impl_letter.f a0=some r) :
  Calls Tryz.prog 78 #[.int .i64 a0] w fun e w'=>e=.returned (.string r)∧Below w.heap.size w w':=by
 have HB:=Zz.mk (Below.refl w.heap.size w)
 have H:(some (strOfNums (([(wrap64 (97+a0)) % 256]:List Int))))=some r:=h
 clear h
 obtain ⟨y109,hy109⟩:∃ y_:List Int,y_=(([(wrap64 (97+a0)) % 256]:List Int)):=⟨_,rfl⟩
 replace H:(some (strOfNums y109))=some r:=by first|(rw [hy109];with_reducible exact H)|(have H2_:=(Option.bind_some _ _).symm.trans H;rw [hy109];with_reducible exact H2_)|(have H2_:=(Option.bind_some _ _).symm.trans H;with_reducible exact H2_)|with_reducible exact H|(rw [hy109];exact H)|exact H
 have Ny109:=Zz.mk hy109
 clear hy109
 obtain rfl:=Option.some.inj H
 go_enter Tryz.func78,Tryz.ntmps78
 go_wp2_with (first|((with_reducible refine gate_dst (N:=6) rfl ?_);refine Kd.R_lit (Kd.int .u8) _ 5 ?hg (N:=6) ?hd (xs:=([(wrap64 (97+a0)) % 256]:List Int)) (inner:=[.int .u8 ((wrap64 (97+a0)) % 256)]) (ok:=fun _=>True) (okp:=fun _=>True) ?hr ?hp (fun _ hk=>hk) trivial (Below.refl _ _) (Nat.le_refl _) (by simp) ?_;(case hd=>rfl);(case hg=>rfl);(case hr=>first|(go_simp;done)|(go_simp;rfl));(case hp=>exact (Reps.one (show Kd.M (Kd.int .u8) _ _ _ ((wrap64 (97+a0)) % 256) [.int .u8 ((wrap64 (97+a0)) % 256)] from rfl) (Reps.none _ _)));intro v110 w2 ho3 hb hg_ hnew_;clear hg_ hnew_;(first|rw [← Ny109.out] at ho3|(simp only [Int.reduceToNat] at ho3;rw [← Ny109.out] at ho3));have n0_:=Zz.mk (Kd.R_lower ho3 (qZ (by repeat (first|(with_reducible first|exact HB.out|apply qA|apply qN|apply q1_)|exact HB.out))));have n1_:=Zz.mk (qP (by repeat (first|(with_reducible first|exact HB.out|apply qA|apply qN|apply q1_)|exact HB.out)) hb);clear HB;have HO111:=n0_;have HB:=n1_;clear n0_ n1_;clear hb ho3;have hcv4:=own_string (P:=Tryz.prog) Tryz.underlying81 Tryz.underlying5 Tryz.underlying9 (Kd.own_of_R HO111.out)))
 go_ret
 exact ⟨by first|rfl|(simp [errW_none,errW_some] <;> rfl)|(simp [*,errW_none,errW_some] <;> rfl),by repeat (first|(with_reducible first|exact HB.out|apply qA|apply qN|apply q1_)|exact HB.out)⟩
def impl_Trie_prefixes.l0:Nat→List ByteArray→List (S70)→Int→Int→Option (List ByteArray × Bool)
 | 0,_,_,_,_=>none
 | k+1,x4,x15,x16,x17=>if x17<x16 then (if 0≤x17 then (if x17<(x15.length:Int) then ((impl_in.f ((rd_T70 x15 x17).f1) 0 x17).bind fun t123=>(if t123=true then ((impl_in.f ((rd_T70 x15 x17).f0) 0 25).bind fun t124=>(if t124=true then (if 0≤((rd_T70 x15 x17).f1) then (if ((rd_T70 x15 x17).f1)<(x4.length:Int) then ((impl_letter.f ((rd_T70 x15 x17).f0)).bind fun t126=>(if (rdOf ByteArray.empty x4 ((rd_T70 x15 x17).f1)).size+t126.size≤9223372036854775807 then (if x4.length<8796093022208 then (impl_Trie_prefixes.l0 k (x4 ++ [(rdOf ByteArray.empty x4 ((rd_T70 x15 x17).f1)) ++ t126]) x15 x16 (wrap64 (x17+1))) else (none)) else (none))) else (none)) else (none)) else (some (([]:List ByteArray),false)))) else (some (([]:List ByteArray),false)))) else (none)) else (none)) else (some (x4,true))
def impl_Trie_prefixes.f (k:Nat) (l0_0:List (S70)):Option (List ByteArray × Bool):=(impl_in.f (l0_0.length:Int) 1 481).bind fun t116=>(if t116=true then (if 1≤(l0_0.length:Int) then ((some (l0_0.drop 1:List (S70))).bind fun y117=>(impl_Trie_prefixes.l0 k (([(⟨#[]⟩:ByteArray)]:List ByteArray)) y117 (y117.length:Int) 0)) else (none)) else (some (([]:List ByteArray),false)))
def impl_Trie_prefixes.T9:Bool × List (List Nat × List Nat):=(true,[([],[]),([],[]),([],[]),([2],[2]),([1,3],[1,3]),([4],[4]),([],[]),([6],[6]),([7],[7]),([5,8],[5,8]),([9],[9]),([0,10,8],[0,10]),([11,11,0,1,2,3,4,5,6,7,8,9,10,11],[0,1,11])])
def impl_Trie_prefixes.B9:List Nat:=[0,0,0,4,14,30,0,64,192,510,1022,2047,4095]
theorem impl_Trie_prefixes.tab9:rtab .any (opsOf Tryz.f57 9)=impl_Trie_prefixes.T9:=by kernel_rfl
theorem impl_Trie_prefixes.bits9:waitsOk impl_Trie_prefixes.T9.2 impl_Trie_prefixes.B9=true:=by kernel_rfl
set_option maxHeartbeats 8000000 in
set_option maxRecDepth 100000 in
theorem impl_Trie_prefixes.calls (k:Nat) (A0_0:Option Addr) (c0_0:Nat) (l0_0:List (S70)) (r1:List ByteArray) (r2:Bool) (w:World) (hr0_0:Kd.C k70 w A0_0 l0_0.length l0_0) (hc0_0:l0_0.length≤c0_0) (h:impl_Trie_prefixes.f k l0_0=some (r1,r2)) :
  Calls Tryz.prog 57 #[.agg #[.slice A0_0 l0_0.length c0_0]] w fun e w'=>∃ v0_:Value,e=.returned (.tuple #[v0_,.bool r2])∧Kd.R Kd.string 9 w' w.heap.size (fun _=>True) v0_ r1∧Below w.heap.size w w':=by
 have hu31:=Tryz.underlying31
 have hu70:=Tryz.underlying70
 have HR0_0:=Zz.mk hr0_0
 have HC0_0:=Zz.mk hc0_0
 clear hr0_0 hc0_0
 have HB:=Zz.mk (Below.refl w.heap.size w)
 have H:((impl_in.f (l0_0.length:Int) 1 481).bind fun t116=>(if t116=true then (if 1≤(l0_0.length:Int) then ((some (l0_0.drop 1:List (S70))).bind fun y117=>(impl_Trie_prefixes.l0 k (([(⟨#[]⟩:ByteArray)]:List ByteArray)) y117 (y117.length:Int) 0)) else (none)) else (some (([]:List ByteArray),false))))=some (r1,r2):=h
 clear h
 obtain ⟨y113,hy113⟩:∃ y_:List ByteArray,y_=(([(⟨#[]⟩:ByteArray)]:List ByteArray)):=⟨_,rfl⟩
 replace H:((impl_in.f (l0_0.length:Int) 1 481).bind fun t116=>(if t116=true then (if 1≤(l0_0.length:Int) then ((some (l0_0.drop 1:List (S70))).bind fun y117=>(impl_Trie_prefixes.l0 k y113 y117 (y117.length:Int) 0)) else (none)) else (some (([]:List ByteArray),false))))=some (r1,r2):=by first|(rw [hy113];with_reducible exact H)|(have H2_:=(Option.bind_some _ _).symm.trans H;rw [hy113];with_reducible exact H2_)|(have H2_:=(Option.bind_some _ _).symm.trans H;with_reducible exact H2_)|with_reducible exact H|(rw [hy113];exact H)|exact H
 have Ny113:=Zz.mk hy113
 clear hy113
 replace H:=Option.bind_eq_some_iff.mp H
 obtain ⟨t116,A20,H⟩:=H
 replace H:(if t116=true then (if 1≤(l0_0.length:Int) then ((some (l0_0.drop 1:List (S70))).bind fun y117=>(impl_Trie_prefixes.l0 k y113 y117 (y117.length:Int) 0)) else (none)) else (some (([]:List ByteArray),false)))=some (r1,r2):=H
 have A2:=Zz.mk A20
 clear A20
 by_cases c3:t116=true
 ·subst c3
  have H1:(if 1≤(l0_0.length:Int) then ((some (l0_0.drop 1:List (S70))).bind fun y117=>(impl_Trie_prefixes.l0 k y113 y117 (y117.length:Int) 0)) else (none))=some (r1,r2):=by rw [if_pos rfl] at H;exact H
  clear H
  have H:=H1
  clear H1
  by_cases c4:1≤(l0_0.length:Int)
  ·rw [if_pos c4] at H
   have c4b0:=eq_true c4
   have c4b1:decide (1≤(l0_0.length:Int))=true:=decide_eq_true c4
   clear c4
   obtain ⟨y117,hy117⟩:∃ y_:List (S70),y_=(l0_0.drop 1):=⟨_,rfl⟩
   replace H:(impl_Trie_prefixes.l0 k y113 y117 (y117.length:Int) 0)=some (r1,r2):=by first|(rw [hy117];with_reducible exact H)|(have H2_:=(Option.bind_some _ _).symm.trans H;rw [hy117];with_reducible exact H2_)|(have H2_:=(Option.bind_some _ _).symm.trans H;with_reducible exact H2_)|with_reducible exact H|(rw [hy117];exact H)|exact H
   have Ny117:=Zz.mk hy117
   clear hy117
   have H':=Zz.mk H
   clear H
   go_enter Tryz.func57,Tryz.ntmps57
   go_wp2_with (first|((with_reducible refine gate_dst (N:=1) rfl ?_);refine box_event ?hg (N:=1) ?hd (cs:=#[.slice A0_0 l0_0.length c0_0]) (t:=31) ?hr ?_;(case hd=>rfl);(case hg=>rfl);(case hr=>first|(go_simp;done)|(go_simp;rfl));intro gb112 hg w5 hbox hb;have n0_:=Zz.mk (qP (by repeat (first|(with_reducible first|exact HB.out|apply qA|apply qN|apply q1_)|exact HB.out)) hb);have n1_:=Zz.mk (hbox);have n2_:=Zz.mk ((by rw [hg];exact (qZ (by repeat (first|(with_reducible first|exact HB.out|apply qA|apply qN|apply q1_)|exact HB.out))):w.heap.size≤gb112));have n3_:=Zz.mk ((by rw [hg];exact (qZ (by repeat (first|(with_reducible first|exact HB.out|apply qA|apply qN|apply q1_)|exact HB.out))):w.heap.size≤gb112));clear HB;have HB:=n0_;have BK112:=n1_;have GW112:=n2_;have GE112:=n3_;clear n0_ n1_ n2_ n3_;clear hb hbox hg)|((with_reducible refine gate_dst (N:=7) rfl ?_);refine Kd.R_lit Kd.string _ 9 ?hg (N:=7) ?hd (xs:=([(⟨#[]⟩:ByteArray)]:List ByteArray)) (inner:=[.string (⟨#[]⟩:ByteArray)]) (ok:=fun _=>True) (okp:=fun _=>True) ?hr ?hp (fun _ hk=>hk) trivial (Below.refl _ _) (Nat.le_refl _) (by simp) ?_;(case hd=>rfl);(case hg=>rfl);(case hr=>first|(go_simp;done)|(go_simp;rfl));(case hp=>exact (Reps.one (show Kd.M Kd.string _ _ _ (⟨#[]⟩:ByteArray) [.string (⟨#[]⟩:ByteArray)] from rfl) (Reps.none _ _)));intro v114 w6 ho7 hb hg_ hnew_;clear hg_ hnew_;(first|rw [← Ny113.out] at ho7|(simp only [Int.reduceToNat] at ho7;rw [← Ny113.out] at ho7));have n0_:=Zz.mk (Kd.R_lower ho7 (qZ (by repeat (first|(with_reducible first|exact HB.out|apply qA|apply qN|apply q1_|refine qS ?_ GE112.out)|exact HB.out))));have n1_:=Zz.mk (bB (g:=gb112) (o:=.cells #[.slice A0_0 l0_0.length c0_0] 31 (0,0)) (by (with_reducible repeat first|apply bN|apply bD|apply bA);exact BK112.out) hb);have n2_:=Zz.mk (qP (by repeat (first|(with_reducible first|exact HB.out|apply qA|apply qN|apply q1_|refine qS ?_ GE112.out)|exact HB.out)) hb);clear BK112;clear HB;have HO115:=n0_;have BK112:=n1_;have HB:=n2_;clear n0_ n1_ n2_;clear hb ho7;have hcz8_0:w6.cell? ⟨gb112,0,none⟩=some (.slice A0_0 l0_0.length c0_0):=(bC BK112.out 0).trans rfl;have hfz8_0:=bF BK112.out 0)|((with_reducible refine gate_callee (f:=77) rfl ?_);refine goesL_ (some 11) rfl rfl Tryz.func77 (by kernel_rfl) rfl #[.int .i64 (l0_0.length:Int),.int .i64 1,.int .i64 481] rfl (by (try simp only [List.map_toArray,List.map_cons,List.map_nil]);first|done|rfl|(simp only [List.length_drop,List.length_take];rfl)) ?_;(with_reducible refine (impl_in.calls (l0_0.length:Int) 1 481 true _ A2.out).mono ?_);rintro e w' ⟨rfl,⟨nd,rfl⟩⟩;refine ⟨_,rfl,?_⟩;have q9:(1:Int)≤((l0_0.length:Int):Int):=of_decide_eq_true (by first|(with_reducible assumption)|assumption);obtain ⟨i09,hi09,_,hsz9,_⟩:=info_parts info70;have hroom9:l0_0.length≤c0_0:=HC0_0.out;have hC9:Kd.C k70 _ A0_0 l0_0.length l0_0:=HR0_0.out;have hcut9:=cut_from (P:=Tryz.prog) 29 70 .i64 Tryz.underlying29 hi09 3 hsz9 A0_0 l0_0.length c0_0 1 (by omega) q9;have hr9:=Kd.C_drop (m:=(1:Int).toNat) (c:=c0_0) hC9 (by omega) hroom9;obtain ⟨A9,hA9⟩:∃ A1,A1=(if c0_0=(1:Int).toNat then A0_0 else (A0_0:Option Addr).map (·.add ((1:Int).toNat * 3))):=⟨_,rfl⟩;obtain ⟨c9,hc9⟩:∃ c1,c1=c0_0 - (1:Int).toNat:=⟨_,rfl⟩;have hy9:y117.length=l0_0.length - (1:Int).toNat:=(by rw [Ny117.out,List.length_drop] <;> omega);rw [show (l0_0).drop (1:Int).toNat=y117 from Ny117.out.symm] at hr9;replace hr9:Kd.C k70 _ A9 y117.length y117:=(by rw [hA9];exact hr9);rw [← hy9,← hA9,← hc9] at hcut9;have HR120:=Zz.mk hr9;have HC120:=Zz.mk (show y117.length≤c9 from by rw [hy9,hc9];exact Nat.sub_le_sub_right hroom9 _);clear hr9 hC9 hroom9 hi09 hsz9 hc9;have KY9:=Zz.mk hy9;have KA9:=Zz.mk hA9;clear hy9 hA9;replace q9:=eq_true q9))
   go_loopg [4,17] k (fun kq v4 v17 w'=>∃ (x4_1:List ByteArray) (x17_1:Int),v17=.int .i64 x17_1∧Zz (impl_Trie_prefixes.l0 kq x4_1 y117 (y117.length:Int) x17_1=some (r1,r2))∧Zz (kq≤k)∧Zz (Kd.R Kd.string 9 w' w.heap.size (fun _=>True) v4 x4_1)∧Zz (w'.heap[gb112]?=some (.cells #[(.slice A0_0 l0_0.length c0_0)] 31 (0,0)))∧Zz (Below w.heap.size w w'))
   case atStart=>exact ⟨(y113),(0),(by first|rfl|(simp;done)|(simp [*];done)),H',⟨Nat.le_refl _⟩,⟨by (with_reducible repeat first|apply Kd.R_alloc|apply Kd.R_drewN|apply Kd.R_drew);exact HO115.out⟩,⟨by (with_reducible repeat first|apply bN|apply bD|apply bA);exact BK112.out⟩,⟨by repeat (first|(with_reducible first|exact HB.out|apply qA|apply qN|apply q1_|refine qS ?_ GE112.out)|exact HB.out)⟩⟩
   case round =>
    clear H'
    try clear c1
    try clear p2
    try clear c3
    try clear c4
    try clear c4b0
    try clear c4b1
    try clear c5
    try clear c7
    try clear c9
    try clear q9
    try clear hcz8_0
    try clear hfz8_0
    try clear q9
    obtain ⟨x4_1,x17_1,rfl,HA,HK1,HO_4,BK112,HB⟩:=hrel
    cases gk with
    | zero=>exact absurd HA.out (by simp [impl_Trie_prefixes.l0])
    | succ k1 =>
     have H:=HA.out
     clear HA
     simp only [impl_Trie_prefixes.l0] at H
     by_cases c10:x17_1<(y117.length:Int)
     ·rw [if_pos c10] at H
      have c10b0:decide (x17_1<(y117.length:Int))=true:=decide_eq_true c10
      clear c10
      by_cases c11:0≤x17_1
      ·rw [if_pos c11] at H
       have c11b0:decide (0≤x17_1)=true:=decide_eq_true c11
       clear c11
       by_cases c12:x17_1<(y117.length:Int)
       ·rw [if_pos c12] at H
        have c12b0:decide (x17_1<(y117.length:Int))=true:=decide_eq_true c12
        clear c12
        replace H:=Option.bind_eq_some_iff.mp H
        obtain ⟨t123,A130,H⟩:=H
        replace H:(if t123=true then ((impl_in.f ((rd_T70 y117 x17_1).f0) 0 25).bind fun t124=>(if t124=true then (if 0≤((rd_T70 y117 x17_1).f1) then (if ((rd_T70 y117 x17_1).f1)<(x4_1.length:Int) then ((impl_letter.f ((rd_T70 y117 x17_1).f0)).bind fun t126=>(if (rdOf ByteArray.empty x4_1 ((rd_T70 y117 x17_1).f1)).size+t126.size≤9223372036854775807 then (if x4_1.length<8796093022208 then (impl_Trie_prefixes.l0 k1 (x4_1 ++ [(rdOf ByteArray.empty x4_1 ((rd_T70 y117 x17_1).f1)) ++ t126]) y117 (y117.length:Int) (wrap64 (x17_1+1))) else (none)) else (none))) else (none)) else (none)) else (some (([]:List ByteArray),false)))) else (some (([]:List ByteArray),false)))=some (r1,r2):=H
        have A13:=Zz.mk A130
        clear A130
        by_cases c14:t123=true
        ·subst c14
         have H1:((impl_in.f ((rd_T70 y117 x17_1).f0) 0 25).bind fun t124=>(if t124=true then (if 0≤((rd_T70 y117 x17_1).f1) then (if ((rd_T70 y117 x17_1).f1)<(x4_1.length:Int) then ((impl_letter.f ((rd_T70 y117 x17_1).f0)).bind fun t126=>(if (rdOf ByteArray.empty x4_1 ((rd_T70 y117 x17_1).f1)).size+t126.size≤9223372036854775807 then (if x4_1.length<8796093022208 then (impl_Trie_prefixes.l0 k1 (x4_1 ++ [(rdOf ByteArray.empty x4_1 ((rd_T70 y117 x17_1).f1)) ++ t126]) y117 (y117.length:Int) (wrap64 (x17_1+1))) else (none)) else (none))) else (none)) else (none)) else (some (([]:List ByteArray),false))))=some (r1,r2):=by rw [if_pos rfl] at H;exact H
         clear H
         have H:=H1
         clear H1
         replace H:=Option.bind_eq_some_iff.mp H
         obtain ⟨t124,A150,H⟩:=H
         replace H:(if t124=true then (if 0≤((rd_T70 y117 x17_1).f1) then (if ((rd_T70 y117 x17_1).f1)<(x4_1.length:Int) then ((impl_letter.f ((rd_T70 y117 x17_1).f0)).bind fun t126=>(if (rdOf ByteArray.empty x4_1 ((rd_T70 y117 x17_1).f1)).size+t126.size≤9223372036854775807 then (if x4_1.length<8796093022208 then (impl_Trie_prefixes.l0 k1 (x4_1 ++ [(rdOf ByteArray.empty x4_1 ((rd_T70 y117 x17_1).f1)) ++ t126]) y117 (y117.length:Int) (wrap64 (x17_1+1))) else (none)) else (none))) else (none)) else (none)) else (some (([]:List ByteArray),false)))=some (r1,r2):=H
         have A15:=Zz.mk A150
         clear A150
         by_cases c16:t124=true
         ·subst c16
          have H1:(if 0≤((rd_T70 y117 x17_1).f1) then (if ((rd_T70 y117 x17_1).f1)<(x4_1.length:Int) then ((impl_letter.f ((rd_T70 y117 x17_1).f0)).bind fun t126=>(if (rdOf ByteArray.empty x4_1 ((rd_T70 y117 x17_1).f1)).size+t126.size≤9223372036854775807 then (if x4_1.length<8796093022208 then (impl_Trie_prefixes.l0 k1 (x4_1 ++ [(rdOf ByteArray.empty x4_1 ((rd_T70 y117 x17_1).f1)) ++ t126]) y117 (y117.length:Int) (wrap64 (x17_1+1))) else (none)) else (none))) else (none)) else (none))=some (r1,r2):=by rw [if_pos rfl] at H;exact H
          clear H
          have H:=H1
          clear H1
          by_cases c17:0≤((rd_T70 y117 x17_1).f1)
          ·rw [if_pos c17] at H
           have c17b0:decide (0≤((rd_T70 y117 x17_1).f1))=true:=decide_eq_true c17
           clear c17
           by_cases c18:((rd_T70 y117 x17_1).f1)<(x4_1.length:Int)
           ·rw [if_pos c18] at H
            have c18b0:decide (((rd_T70 y117 x17_1).f1)<(x4_1.length:Int))=true:=decide_eq_true c18
            clear c18
            replace H:=Option.bind_eq_some_iff.mp H
            obtain ⟨t126,A190,H⟩:=H
            replace H:(if (rdOf ByteArray.empty x4_1 ((rd_T70 y117 x17_1).f1)).size+t126.size≤9223372036854775807 then (if x4_1.length<8796093022208 then (impl_Trie_prefixes.l0 k1 (x4_1 ++ [(rdOf ByteArray.empty x4_1 ((rd_T70 y117 x17_1).f1)) ++ t126]) y117 (y117.length:Int) (wrap64 (x17_1+1))) else (none)) else (none))=some (r1,r2):=H
            have A19:=Zz.mk A190
            clear A190
            by_cases c20:(rdOf ByteArray.empty x4_1 ((rd_T70 y117 x17_1).f1)).size+t126.size≤9223372036854775807
            ·rw [if_pos c20] at H
             have c20b0:=eq_true c20
             have c20b1:decide ((rdOf ByteArray.empty x4_1 ((rd_T70 y117 x17_1).f1)).size+t126.size≤9223372036854775807)=true:=decide_eq_true c20
             try have c20b2:(9223372036854775807<(rdOf ByteArray.empty x4_1 ((rd_T70 y117 x17_1).f1)).size+t126.size)=False:=eq_false (Nat.not_lt.2 c20)
             by_cases c21:x4_1.length<8796093022208
             ·rw [if_pos c21] at H
              have LMc21:=Zz.mk c21
              clear c21
              obtain ⟨y127,hy127⟩:∃ y_:List ByteArray,y_=(x4_1 ++ [(rdOf ByteArray.empty x4_1 ((rd_T70 y117 x17_1).f1)) ++ t126]):=⟨_,rfl⟩
              replace H:(impl_Trie_prefixes.l0 k1 y127 y117 (y117.length:Int) (wrap64 (x17_1+1)))=some (r1,r2):=by first|(rw [hy127];with_reducible exact H)|(have H2_:=(Option.bind_some _ _).symm.trans H;rw [hy127];with_reducible exact H2_)|(have H2_:=(Option.bind_some _ _).symm.trans H;with_reducible exact H2_)|with_reducible exact H|(rw [hy127];exact H)|exact H
              have Ny127:=Zz.mk hy127
              clear hy127
              have H':=Zz.mk H
              clear H
              have p121:0≤(x17_1:Int):=of_decide_eq_true (by first|(with_reducible assumption)|assumption)
              have q121:x17_1<(y117.length:Int):=of_decide_eq_true (by first|(with_reducible assumption)|assumption)
              obtain ⟨ad121,e121,hx121_0,hx121_1,hx121_2⟩:=at_T70 HR120.out x17_1 p121 q121
              cases e121
              replace hx121_0:=(HB.out.cell (World.block_lt_of_cell? w _ hx121_0)).trans hx121_0
              replace hx121_1:=(HB.out.cell (World.block_lt_of_cell? w _ hx121_1)).trans hx121_1
              replace hx121_2:=(HB.out.cell (World.block_lt_of_cell? w _ hx121_2)).trans hx121_2
              replace p121:=eq_true p121
              replace q121:=eq_true q121
              try go_wp2_with (first|((with_reducible refine gate_dst (N:=6) rfl ?_);refine box_event ?hg (N:=6) ?hd (cs:=#[.int .i64 0,.int .i64 0,.bool false]) (t:=70) ?hr ?_;(case hd=>rfl);(case hg=>rfl);(case hr=>first|(go_simp;done)|(go_simp;rfl));intro gb122 hg w22 hbox hb;have n0_:=Zz.mk (Kd.R_below (by (with_reducible repeat first|apply Kd.R_alloc|apply Kd.R_drewN|apply Kd.R_drew);exact HO_4.out) hb);have n1_:=Zz.mk (bB (g:=gb112) (o:=.cells #[.slice A0_0 l0_0.length c0_0] 31 (0,0)) (by (with_reducible repeat first|apply bN|apply bD|apply bA);exact BK112.out) hb);have n2_:=Zz.mk (qP (by repeat (first|(with_reducible first|exact HB.out|apply qA|apply qN|apply q1_|refine qS ?_ GE112.out)|exact HB.out)) hb);have n3_:=Zz.mk (hbox);have n4_:=Zz.mk ((by rw [hg];exact (qZ (by repeat (first|(with_reducible first|exact HB.out|apply qA|apply qN|apply q1_|refine qS ?_ GE112.out)|exact HB.out))):w.heap.size≤gb122));have n5_:=Zz.mk ((by rw [hg];exact (qZ (by repeat (first|(with_reducible first|exact HB.out|apply qA|apply qN|apply q1_|refine qS ?_ GE112.out)|exact HB.out))):w.heap.size≤gb122));have n6_:=Zz.mk ((by rw [hg];exact Nat.ne_of_lt (blk_lt (g:=gb112) (o:=.cells #[.slice A0_0 l0_0.length c0_0] 31 (0,0)) (by (with_reducible repeat first|apply bN|apply bD|apply bA);exact BK112.out)):gb112 ≠ gb122));have n7_:=Zz.mk ((by rw [hg];exact Nat.ne_of_gt (blk_lt (g:=gb112) (o:=.cells #[.slice A0_0 l0_0.length c0_0] 31 (0,0)) (by (with_reducible repeat first|apply bN|apply bD|apply bA);exact BK112.out)):gb122 ≠ gb112));clear HO_4;clear BK112;clear HB;have HO_4:=n0_;have BK112:=n1_;have HB:=n2_;have BK122:=n3_;have GW122:=n4_;have GE122:=n5_;have NB112_122:=n6_;have NB122_112:=n7_;clear n0_ n1_ n2_ n3_ n4_ n5_ n6_ n7_;clear hb hbox hg;have hnb23:=NB122_112.out;have hnc23:=NB112_122.out;have hcz24_0:w22.cell? ⟨gb122,0,none⟩=some (.int .i64 0):=(bC BK122.out 0).trans rfl;have hcz24_1:w22.cell? ⟨gb122,1,none⟩=some (.int .i64 0):=(bC BK122.out 1).trans rfl;have hcz24_2:w22.cell? ⟨gb122,2,none⟩=some (.bool false):=(bC BK122.out 2).trans rfl;have hfz24_0:=bF BK122.out 0;have hfz24_1:=bF BK122.out 1;have hfz24_2:=bF BK122.out 2)|((with_reducible refine gate_callee (f:=77) rfl ?_);refine goesL_ (some 25) rfl rfl Tryz.func77 (by kernel_rfl) rfl #[.int .i64 ((rd_T70 y117 x17_1).f1),.int .i64 0,.int .i64 x17_1] rfl (by (try simp only [List.map_toArray,List.map_cons,List.map_nil]);first|done|rfl|(simp only [List.length_drop,List.length_take];rfl)) ?_;(with_reducible refine (impl_in.calls ((rd_T70 y117 x17_1).f1) 0 x17_1 true _ A13.out).mono ?_);rintro e w' ⟨rfl,⟨nd,rfl⟩⟩;refine ⟨_,rfl,?_⟩)|(go_at_call 77;(with_reducible refine (impl_in.calls ((rd_T70 y117 x17_1).f0) 0 25 true _ A15.out).mono ?_);rintro e w' ⟨rfl,⟨nd,rfl⟩⟩))
              have n0_:Zz (Kd.R Kd.string 9 (((w22.setCell ⟨gb122,0,none⟩ (.int .i64 ((rd_T70 y117 x17_1).f0))).setCell ⟨gb122,1,none⟩ (.int .i64 ((rd_T70 y117 x17_1).f1))).setCell ⟨gb122,2,none⟩ (.bool ((rd_T70 y117 x17_1).f2))) w.heap.size (fun _=>True) u4 x4_1):=⟨by (with_reducible repeat first|apply Kd.R_alloc|apply Kd.R_drewN|apply Kd.R_drew);exact Kd.R_mono (R_same_ (Kd.R_far (p:=⟨gb122,2,none⟩) (Kd.R_far (p:=⟨gb122,1,none⟩) (Kd.R_far (p:=⟨gb122,0,none⟩) (Kd.R_types HO_4.out BK122.out (by decide)) (fun _ hk=>hk.2) (.int .i64 ((rd_T70 y117 x17_1).f0))) (fun _ hk=>hk.2) (.int .i64 ((rd_T70 y117 x17_1).f1))) (fun _ hk=>hk.2) (.bool ((rd_T70 y117 x17_1).f2))) rfl) (fun _ hk=>trivial)⟩
              have n1_:Zz ((((w22.setCell ⟨gb122,0,none⟩ (.int .i64 ((rd_T70 y117 x17_1).f0))).setCell ⟨gb122,1,none⟩ (.int .i64 ((rd_T70 y117 x17_1).f1))).setCell ⟨gb122,2,none⟩ (.bool ((rd_T70 y117 x17_1).f2))).heap[gb112]?=some (.cells #[.slice A0_0 l0_0.length c0_0] 31 (0,0))):=⟨by (with_reducible repeat first|apply bN|apply bD|apply bA);refine blk_far ?_ NB112_122.out _;(with_reducible repeat first|apply bN|apply bD|apply bA);refine blk_far ?_ NB112_122.out _;(with_reducible repeat first|apply bN|apply bD|apply bA);refine blk_far ?_ NB112_122.out _;(with_reducible repeat first|apply bN|apply bD|apply bA);exact BK112.out⟩
              have n2_:Zz ((((w22.setCell ⟨gb122,0,none⟩ (.int .i64 ((rd_T70 y117 x17_1).f0))).setCell ⟨gb122,1,none⟩ (.int .i64 ((rd_T70 y117 x17_1).f1))).setCell ⟨gb122,2,none⟩ (.bool ((rd_T70 y117 x17_1).f2))).heap[gb122]?=some (.cells #[.int .i64 ((rd_T70 y117 x17_1).f0),.int .i64 ((rd_T70 y117 x17_1).f1),.bool ((rd_T70 y117 x17_1).f2)] 70 (0,0))):=⟨by (with_reducible repeat first|apply bN|apply bD|apply bA);refine blk_put (cs:=#[.int .i64 ((rd_T70 y117 x17_1).f0),.int .i64 ((rd_T70 y117 x17_1).f1),.bool false]) ?_ 2 _ rfl;(with_reducible repeat first|apply bN|apply bD|apply bA);refine blk_put (cs:=#[.int .i64 ((rd_T70 y117 x17_1).f0),.int .i64 0,.bool false]) ?_ 1 _ rfl;(with_reducible repeat first|apply bN|apply bD|apply bA);refine blk_put (cs:=#[.int .i64 0,.int .i64 0,.bool false]) ?_ 0 _ rfl;(with_reducible repeat first|apply bN|apply bD|apply bA);exact BK122.out⟩
              have n3_:Zz (Below w.heap.size w (((w22.setCell ⟨gb122,0,none⟩ (.int .i64 ((rd_T70 y117 x17_1).f0))).setCell ⟨gb122,1,none⟩ (.int .i64 ((rd_T70 y117 x17_1).f1))).setCell ⟨gb122,2,none⟩ (.bool ((rd_T70 y117 x17_1).f2)))):=⟨by repeat (first|(with_reducible first|exact HB.out|apply qA|apply qN|apply q1_|refine qS ?_ GE112.out|refine qS ?_ GE122.out)|exact HB.out)⟩
              (try clear HO_4)
              (try clear BK112)
              (try clear BK122)
              (try clear HB)
              generalize (((w22.setCell ⟨gb122,0,none⟩ (.int .i64 ((rd_T70 y117 x17_1).f0))).setCell ⟨gb122,1,none⟩ (.int .i64 ((rd_T70 y117 x17_1).f1))).setCell ⟨gb122,2,none⟩ (.bool ((rd_T70 y117 x17_1).f2)))=w25 at n0_ n1_ n2_ n3_ ⊢
              have HO_4:=n0_
              have BK112:=n1_
              have BK122:=n2_
              have HB:=n3_
              clear n0_ n1_ n2_ n3_
              (try (rw [drewN_self w25];generalize hq_:World.drewN w25 _=w25;have n0_:Zz (Kd.R Kd.string 9 w25 w.heap.size (fun _=>True) u4 x4_1):=⟨by rw [← hq_];exact (by (with_reducible repeat first|apply Kd.R_alloc|apply Kd.R_drewN|apply Kd.R_drew);exact HO_4.out)⟩;have n1_:Zz (w25.heap[gb112]?=some (.cells #[.slice A0_0 l0_0.length c0_0] 31 (0,0))):=⟨by rw [← hq_];exact (by (with_reducible repeat first|apply bN|apply bD|apply bA);exact BK112.out)⟩;have n2_:Zz (w25.heap[gb122]?=some (.cells #[.int .i64 ((rd_T70 y117 x17_1).f0),.int .i64 ((rd_T70 y117 x17_1).f1),.bool ((rd_T70 y117 x17_1).f2)] 70 (0,0))):=⟨by rw [← hq_];exact (by (with_reducible repeat first|apply bN|apply bD|apply bA);exact BK122.out)⟩;have n3_:Zz (Below w.heap.size w w25):=⟨by rw [← hq_];exact (by repeat (first|(with_reducible first|exact HB.out|apply qA|apply qN|apply q1_|refine qS ?_ GE112.out|refine qS ?_ GE122.out)|exact HB.out))⟩;clear HO_4 BK112 BK122 HB hq_;have HO_4:=n0_;have BK112:=n1_;have BK122:=n2_;have HB:=n3_;clear n0_ n1_ n2_ n3_))
              have n0_:=Zz.mk (Kd.R_drew HO_4.out)
              have n1_:=Zz.mk (bD BK112.out)
              have n2_:=Zz.mk (bD BK122.out)
              have n3_:=Zz.mk (q1_ HB.out)
              revert n0_ n1_ n2_ n3_
              clear HO_4 BK112 BK122 HB
              intro HO_4 BK112 BK122 HB
              obtain ⟨Ao27,co27,eo27⟩:=Kd.R_slice HO_4.out
              (first|subst eo27|(injection eo27 with f1_ f2_ f3_;have f4_:=f1_.symm;have f5_:=f3_.symm;clear f1_ f2_ f3_;subst f4_;subst f5_))
              have p125:0≤(((rd_T70 y117 x17_1).f1):Int):=of_decide_eq_true (by first|(with_reducible assumption)|assumption)
              have q125:((rd_T70 y117 x17_1).f1)<(x4_1.length:Int):=of_decide_eq_true (by first|(with_reducible assumption)|assumption)
              obtain ⟨ad125,e125,hx125_0⟩:=Kd.at_string (Kd.R_reads' HO_4.out).2.2 ((rd_T70 y117 x17_1).f1) p125 q125
              cases e125
              replace p125:=eq_true p125
              replace q125:=eq_true q125
              refine start_ (n:=13) (S:=fun w'=>w'.cell? ⟨gb122,0,none⟩=some (.int .i64 ((rd_T70 y117 x17_1).f0))∧w'.cell? ⟨gb122,1,none⟩=some (.int .i64 ((rd_T70 y117 x17_1).f1))∧w'.cell? ⟨gb122,2,none⟩=some (.bool ((rd_T70 y117 x17_1).f2))∧w'.cell? (ad125.add (((rd_T70 y117 x17_1).f1)).toNat)=some (.string (rdOf ByteArray.empty x4_1 ((rd_T70 y117 x17_1).f1)))) (ds:=[10,11]) #[false,false,false,false,false,false,false,false,false,false,false,false,false] (by kernel_rfl) rfl rfl ⟨(bC BK122.out 0).trans rfl,(bC BK122.out 1).trans rfl,(bC BK122.out 2).trans rfl,hx125_0⟩ (fun hHeld=>?_);refine with_tabW impl_Trie_prefixes.tab9 impl_Trie_prefixes.bits9 (fun HT_ HW_=>?_)
              generalize w25.drew=w26 at HO_4 BK112 BK122 HB hx125_0 hHeld ⊢
              refine pure_ (i:=0) (N:=some 33) (v:=?_) (a':=?_) #[true,false,false,false,false,false,false,false,false,false,false,false,false] rfl rfl (any_of HT_.out (by kernel_rfl)) (fun _ _ _ h=>h) (Or.inl ⟨by rfl,?_⟩) ?_ ?_
              rotate_left
              ·intro w'
               go_simp
               with_reducible rfl
              rotate_left
              ·simp only [Act.put,List.setIfInBounds_toArray,List.set_cons_zero,List.set_cons_succ,i64_w,i32_w]
               rfl
              refine pure_ (i:=1) (N:=some 34) (v:=?_) (a':=?_) #[true,true,false,false,false,false,false,false,false,false,false,false,false] rfl rfl (any_of HT_.out (by kernel_rfl)) (fun _ _ _ h=>h) (Or.inl ⟨by rfl,?_⟩) ?_ ?_
              rotate_left
              ·intro w'
               go_simp
               with_reducible rfl
              rotate_left
              ·simp only [Act.put,List.setIfInBounds_toArray,List.set_cons_zero,List.set_cons_succ,i64_w,i32_w]
               rfl
              refine pure_ (i:=2) (N:=some 35) (v:=?_) (a':=?_) #[true,true,true,false,false,false,false,false,false,false,false,false,false] rfl rfl (any_of HT_.out (by kernel_rfl)) (fun _ _ _ h=>h) (Or.inl ⟨by rfl,?_⟩) ?_ ?_
              rotate_left
              ·intro w'
               go_simp
               with_reducible rfl
              rotate_left
              ·simp only [Act.put,List.setIfInBounds_toArray,List.set_cons_zero,List.set_cons_succ,i64_w,i32_w]
               rfl
              refine pure_ (i:=6) (N:=some 39) (v:=?_) (a':=?_) #[true,true,true,false,false,false,true,false,false,false,false,false,false] rfl rfl (any_of HT_.out (by kernel_rfl)) (fun _ _ _ h=>h) (Or.inl ⟨by rfl,?_⟩) ?_ ?_
              rotate_left
              ·intro w'
               go_simp
               with_reducible rfl
              rotate_left
              ·simp only [Act.put,List.setIfInBounds_toArray,List.set_cons_zero,List.set_cons_succ,i64_w,i32_w]
               rfl
              refine take_ (i:=3) (N:=some 36) (v:=?_) (a':=?_) #[true,true,true,true,false,false,true,false,false,false,false,false,false] rfl rfl (take_ofW HT_.out HW_.out (by kernel_rfl)) (fun _ _ _ h=>h) (Or.inl ⟨by rfl,?_⟩) hHeld ?_ ?_
              rotate_left
              ·rintro w' ⟨s0,s1,s2,s3⟩
               go_simp
               with_reducible rfl
              rotate_left
              ·simp only [Act.put,List.setIfInBounds_toArray,List.set_cons_zero,List.set_cons_succ,i64_w,i32_w]
               rfl
              refine pure_ (i:=4) (N:=some 37) (v:=?_) (a':=?_) #[true,true,true,true,true,false,true,false,false,false,false,false,false] rfl rfl (any_of HT_.out (by kernel_rfl)) (fun _ _ _ h=>h) (Or.inl ⟨by rfl,?_⟩) ?_ ?_
              rotate_left
              ·intro w'
               go_simp
               with_reducible rfl
              rotate_left
              ·simp only [Act.put,List.setIfInBounds_toArray,List.set_cons_zero,List.set_cons_succ,i64_w,i32_w]
               rfl
              refine take_ (i:=5) (N:=some 38) (v:=?_) (a':=?_) #[true,true,true,true,true,true,true,false,false,false,false,false,false] rfl rfl (take_ofW HT_.out HW_.out (by kernel_rfl)) (fun _ _ _ h=>h) (Or.inl ⟨by rfl,?_⟩) hHeld ?_ ?_
              rotate_left
              ·rintro w' ⟨s0,s1,s2,s3⟩
               go_simp
               with_reducible rfl
              rotate_left
              ·simp only [Act.put,List.setIfInBounds_toArray,List.set_cons_zero,List.set_cons_succ,i64_w,i32_w]
               rfl
              refine take_ (i:=7) (N:=some 40) (v:=?_) (a':=?_) #[true,true,true,true,true,true,true,true,false,false,false,false,false] rfl rfl (take_ofW HT_.out HW_.out (by kernel_rfl)) (fun _ _ _ h=>h) (Or.inl ⟨by rfl,?_⟩) hHeld ?_ ?_
              rotate_left
              ·rintro w' ⟨s0,s1,s2,s3⟩
               go_simp
               with_reducible rfl
              rotate_left
              ·simp only [Act.put,List.setIfInBounds_toArray,List.set_cons_zero,List.set_cons_succ,i64_w,i32_w]
               rfl
              refine one_ (i:=8) (N:=some 41) #[true,true,true,true,true,true,true,true,true,false,false,false,false] rfl rfl (one_of HT_.out (by kernel_rfl)) (by decide) (fun K hK=>?_)
              refine goes_ Tryz.func78 (by kernel_rfl) rfl #[.int .i64 ((rd_T70 y117 x17_1).f0)] (by rfl) rfl rfl (by (try simp only [List.map_toArray,List.map_cons,List.map_nil]);first|done|rfl|(simp only [List.length_drop,List.length_take];rfl)) ?_
              with_reducible refine (impl_letter.calls ((rd_T70 y117 x17_1).f0) t126 _ A19.out).mono ?_
              rintro e w28 ⟨rfl,hb⟩
              have HS3_:=(hb.cell (World.block_lt_of_cell? _ _ (hHeld.2.2.2))).trans (hHeld.2.2.2)
              refine ⟨_,rfl,?_⟩
              have n0_:=Zz.mk (Kd.R_below HO_4.out hb)
              have n1_:=Zz.mk (bB BK112.out hb)
              have n2_:=Zz.mk (bB BK122.out hb)
              have n3_:=Zz.mk (qP HB.out hb)
              revert n0_ n1_ n2_ n3_
              clear HO_4 BK112 BK122 HB
              intro HO_4 BK112 BK122 HB
              (try clear hb)
              (try clear hb2)
              (try clear hk)
              (try clear hi)
              refine hK.out _ _ ⟨(bC BK122.out 0).trans rfl,(bC BK122.out 1).trans rfl,(bC BK122.out 2).trans rfl,HS3_⟩ (fun hHeld=>?_)
              clear hK K
              refine norm_ (a':=?_) ?_ ?_
              rotate_left
              ·show Act.put _ (some 41) _=_
               simp only [Act.put,List.setIfInBounds_toArray,List.set_cons_zero,List.set_cons_succ,i64_w,i32_w]
               rfl
              refine pure_ (i:=9) (N:=some 42) (v:=?_) (a':=?_) #[true,true,true,true,true,true,true,true,true,true,false,false,false] rfl rfl (any_of HT_.out (by kernel_rfl)) (fun _ _ _ h=>h) (Or.inl ⟨by rfl,?_⟩) ?_ ?_
              rotate_left
              ·intro w'
               go_simp
               with_reducible rfl
              rotate_left
              ·simp only [Act.put,List.setIfInBounds_toArray,List.set_cons_zero,List.set_cons_succ,i64_w,i32_w]
               rfl
              refine last_ (i:=10) (N:=some 43) #[true,true,true,true,true,true,true,true,true,true,true,false,false] rfl rfl (one_of HT_.out (by kernel_rfl)) (by decide) (fun K hK=>?_)
              refine value_ (w1:=?_) (v:=?_) (by rfl) rfl ?_ ?_
              rotate_left 2
              ·go_simp
               constructor
               ·rfl
               ·rfl
              refine hK.out _ _ ?_
              clear hK K
              refine norm_ (a':=?_) ?_ ?_
              rotate_left
              ·show Act.put _ (some 43) _=_
               simp only [Act.put,List.setIfInBounds_toArray,List.set_cons_zero,List.set_cons_succ,i64_w,i32_w]
               rfl
              refine last_ (i:=11) (N:=some 44) #[true,true,true,true,true,true,true,true,true,true,true,true,false] rfl rfl (one_of HT_.out (by kernel_rfl)) (by decide) (fun K hK=>?_)
              refine Kd.R_append_step Kd.string (w0:=w) w.heap.size (by rfl) (.tmp 33) (.tmp 43) 43 9 (.string ⟨#[]⟩) 16 rfl Tryz.underlying43 info9 rfl (by decide) (by omega) (.slice (some ad125) x4_1.length co27) x4_1 ((rdOf ByteArray.empty x4_1 ((rd_T70 y117 x17_1).f1)) ++ t126) [.string ((rdOf ByteArray.empty x4_1 ((rd_T70 y117 x17_1).f1)) ++ t126)] (fun _=>True) (fun _=>False) rfl rfl ?aP (fun _ hk=>hk.elim) ?aF ?aO ?aB ?aS ?aL ?_
              (case aP=>exact rfl)
              (case aB=>exact (by repeat (first|(with_reducible first|exact HB.out|apply qA|apply qN|apply q1_|refine qS ?_ GE112.out|refine qS ?_ GE122.out)|exact HB.out)))
              (case aF=>exact (fun _ _=>trivial))
              (case aO=>exact (by (with_reducible repeat first|apply Kd.R_alloc|apply Kd.R_drewN|apply Kd.R_drew);exact HO_4.out))
              (case aS=>exact (qZ (by repeat (first|(with_reducible first|exact HB.out|apply qA|apply qN|apply q1_|refine qS ?_ GE112.out|refine qS ?_ GE122.out)|exact HB.out))))
              (case aL=>have:=LMc21.out;omega)
              intro v128 w29 ho hb hg hat
              rw [← Ny127.out] at ho
              have n0_:=Zz.mk (blk_grown BK112.out hg (Kd.R_ne HO_4.out BK112.out (by decide)))
              have n1_:=Zz.mk (blk_grown BK122.out hg (Kd.R_ne HO_4.out BK122.out (by decide)))
              have n2_:=Zz.mk (hb)
              have n3_:=Zz.mk (ho)
              revert n0_ n1_ n2_ n3_
              clear BK112 BK122 HB HO_4
              intro BK112 BK122 HB HO129
              clear ho hb hg hat
              refine hK.out _ _ ?_
              clear hK K
              refine norm_ (a':=?_) ?_ ?_
              rotate_left
              ·show Act.put _ (some 44) _=_
               simp only [Act.put,List.setIfInBounds_toArray,List.set_cons_zero,List.set_cons_succ,i64_w,i32_w]
               rfl
              refine pure_ (i:=12) (N:=some 4) (v:=?_) (a':=?_) #[true,true,true,true,true,true,true,true,true,true,true,true,true] rfl rfl (any_of HT_.out (by kernel_rfl)) (fun _ _ _ h=>h) (Or.inl ⟨by rfl,?_⟩) ?_ ?_
              rotate_left
              ·intro w'
               go_simp
               with_reducible rfl
              rotate_left
              ·simp only [Act.put,List.setIfInBounds_toArray,List.set_cons_zero,List.set_cons_succ,i64_w,i32_w]
               rfl
              refine done_ (done_of HT_.out (by kernel_rfl)) ?_
              try go_wp2
              go_roundg k1
              case measure=>have:=HK1.out;omega
              case rel=>exact ⟨(y127),(wrap64 (x17_1+1)),(by first|rfl|(simp;done)|(simp [*];done)),H',⟨by have:=HK1.out;omega⟩,⟨by (with_reducible repeat first|apply Kd.R_alloc|apply Kd.R_drewN|apply Kd.R_drew);exact HO129.out⟩,⟨by (with_reducible repeat first|apply bN|apply bD|apply bA);exact BK112.out⟩,⟨by repeat (first|(with_reducible first|exact HB.out|apply qA|apply qN|apply q1_|refine qS ?_ GE112.out|refine qS ?_ GE122.out)|exact HB.out)⟩⟩
             ·rw [if_neg c21] at H
              exact absurd H (by simp)
            ·rw [if_neg c20] at H
             exact absurd H (by simp)
           ·rw [if_neg c18] at H
            exact absurd H (by simp)
          ·rw [if_neg c17] at H
           exact absurd H (by simp)
         ·replace c16:=Bool.eq_false_iff.mpr c16
          subst c16
          have H1:(some (([]:List ByteArray),false))=some (r1,r2):=by rw [if_neg (show ¬ (false=true) by decide)] at H;exact H
          clear H
          have H:=H1
          clear H1
          simp only [Option.some.injEq,Prod.mk.injEq] at H
          obtain ⟨rfl,rfl⟩:=H
          have p121:0≤(x17_1:Int):=of_decide_eq_true (by first|(with_reducible assumption)|assumption)
          have q121:x17_1<(y117.length:Int):=of_decide_eq_true (by first|(with_reducible assumption)|assumption)
          obtain ⟨ad121,e121,hx121_0,hx121_1,hx121_2⟩:=at_T70 HR120.out x17_1 p121 q121
          cases e121
          replace hx121_0:=(HB.out.cell (World.block_lt_of_cell? w _ hx121_0)).trans hx121_0
          replace hx121_1:=(HB.out.cell (World.block_lt_of_cell? w _ hx121_1)).trans hx121_1
          replace hx121_2:=(HB.out.cell (World.block_lt_of_cell? w _ hx121_2)).trans hx121_2
          replace p121:=eq_true p121
          replace q121:=eq_true q121
          go_wp2_with (first|((with_reducible refine gate_dst (N:=6) rfl ?_);refine box_event ?hg (N:=6) ?hd (cs:=#[.int .i64 0,.int .i64 0,.bool false]) (t:=70) ?hr ?_;(case hd=>rfl);(case hg=>rfl);(case hr=>first|(go_simp;done)|(go_simp;rfl));intro gb122 hg w30 hbox hb;have n0_:=Zz.mk (Kd.R_below (by (with_reducible repeat first|apply Kd.R_alloc|apply Kd.R_drewN|apply Kd.R_drew);exact HO_4.out) hb);have n1_:=Zz.mk (bB (g:=gb112) (o:=.cells #[.slice A0_0 l0_0.length c0_0] 31 (0,0)) (by (with_reducible repeat first|apply bN|apply bD|apply bA);exact BK112.out) hb);have n2_:=Zz.mk (qP (by repeat (first|(with_reducible first|exact HB.out|apply qA|apply qN|apply q1_|refine qS ?_ GE112.out)|exact HB.out)) hb);have n3_:=Zz.mk (hbox);have n4_:=Zz.mk ((by rw [hg];exact (qZ (by repeat (first|(with_reducible first|exact HB.out|apply qA|apply qN|apply q1_|refine qS ?_ GE112.out)|exact HB.out))):w.heap.size≤gb122));have n5_:=Zz.mk ((by rw [hg];exact (qZ (by repeat (first|(with_reducible first|exact HB.out|apply qA|apply qN|apply q1_|refine qS ?_ GE112.out)|exact HB.out))):w.heap.size≤gb122));have n6_:=Zz.mk ((by rw [hg];exact Nat.ne_of_lt (blk_lt (g:=gb112) (o:=.cells #[.slice A0_0 l0_0.length c0_0] 31 (0,0)) (by (with_reducible repeat first|apply bN|apply bD|apply bA);exact BK112.out)):gb112 ≠ gb122));have n7_:=Zz.mk ((by rw [hg];exact Nat.ne_of_gt (blk_lt (g:=gb112) (o:=.cells #[.slice A0_0 l0_0.length c0_0] 31 (0,0)) (by (with_reducible repeat first|apply bN|apply bD|apply bA);exact BK112.out)):gb122 ≠ gb112));clear HO_4;clear BK112;clear HB;have HO_4:=n0_;have BK112:=n1_;have HB:=n2_;have BK122:=n3_;have GW122:=n4_;have GE122:=n5_;have NB112_122:=n6_;have NB122_112:=n7_;clear n0_ n1_ n2_ n3_ n4_ n5_ n6_ n7_;clear hb hbox hg;have hnb31:=NB122_112.out;have hnc31:=NB112_122.out;have hcz32_0:w30.cell? ⟨gb122,0,none⟩=some (.int .i64 0):=(bC BK122.out 0).trans rfl;have hcz32_1:w30.cell? ⟨gb122,1,none⟩=some (.int .i64 0):=(bC BK122.out 1).trans rfl;have hcz32_2:w30.cell? ⟨gb122,2,none⟩=some (.bool false):=(bC BK122.out 2).trans rfl;have hfz32_0:=bF BK122.out 0;have hfz32_1:=bF BK122.out 1;have hfz32_2:=bF BK122.out 2)|((with_reducible refine gate_callee (f:=77) rfl ?_);refine goesL_ (some 25) rfl rfl Tryz.func77 (by kernel_rfl) rfl #[.int .i64 ((rd_T70 y117 x17_1).f1),.int .i64 0,.int .i64 x17_1] rfl (by (try simp only [List.map_toArray,List.map_cons,List.map_nil]);first|done|rfl|(simp only [List.length_drop,List.length_take];rfl)) ?_;(with_reducible refine (impl_in.calls ((rd_T70 y117 x17_1).f1) 0 x17_1 true _ A13.out).mono ?_);rintro e w' ⟨rfl,⟨nd,rfl⟩⟩;refine ⟨_,rfl,?_⟩)|(go_at_call 77;(with_reducible refine (impl_in.calls ((rd_T70 y117 x17_1).f0) 0 25 false _ A15.out).mono ?_);rintro e w' ⟨rfl,⟨nd,rfl⟩⟩))
          go_ret2
          exact ⟨_,by first|rfl|(simp [errW_none,errW_some] <;> rfl)|(simp [*,errW_none,errW_some] <;> rfl),by first|exact Kd.R_nil _ _ _ _ _|exact Kd.N_nil _ _ _ _ _|exact Kd.V_nil _ _ _ _ _|exact Kd.Q_nil _ _ _ _ _|exact Kd.S_nil _ _ _ _ _,by repeat (first|(with_reducible first|exact HB.out|apply qA|apply qN|apply q1_|refine qS ?_ GE112.out|refine qS ?_ GE122.out)|exact HB.out)⟩
        ·replace c14:=Bool.eq_false_iff.mpr c14
         subst c14
         have H1:(some (([]:List ByteArray),false))=some (r1,r2):=by rw [if_neg (show ¬ (false=true) by decide)] at H;exact H
         clear H
         have H:=H1
         clear H1
         simp only [Option.some.injEq,Prod.mk.injEq] at H
         obtain ⟨rfl,rfl⟩:=H
         have p121:0≤(x17_1:Int):=of_decide_eq_true (by first|(with_reducible assumption)|assumption)
         have q121:x17_1<(y117.length:Int):=of_decide_eq_true (by first|(with_reducible assumption)|assumption)
         obtain ⟨ad121,e121,hx121_0,hx121_1,hx121_2⟩:=at_T70 HR120.out x17_1 p121 q121
         cases e121
         replace hx121_0:=(HB.out.cell (World.block_lt_of_cell? w _ hx121_0)).trans hx121_0
         replace hx121_1:=(HB.out.cell (World.block_lt_of_cell? w _ hx121_1)).trans hx121_1
         replace hx121_2:=(HB.out.cell (World.block_lt_of_cell? w _ hx121_2)).trans hx121_2
         replace p121:=eq_true p121
         replace q121:=eq_true q121
         go_wp2_with (first|((with_reducible refine gate_dst (N:=6) rfl ?_);refine box_event ?hg (N:=6) ?hd (cs:=#[.int .i64 0,.int .i64 0,.bool false]) (t:=70) ?hr ?_;(case hd=>rfl);(case hg=>rfl);(case hr=>first|(go_simp;done)|(go_simp;rfl));intro gb122 hg w33 hbox hb;have n0_:=Zz.mk (Kd.R_below (by (with_reducible repeat first|apply Kd.R_alloc|apply Kd.R_drewN|apply Kd.R_drew);exact HO_4.out) hb);have n1_:=Zz.mk (bB (g:=gb112) (o:=.cells #[.slice A0_0 l0_0.length c0_0] 31 (0,0)) (by (with_reducible repeat first|apply bN|apply bD|apply bA);exact BK112.out) hb);have n2_:=Zz.mk (qP (by repeat (first|(with_reducible first|exact HB.out|apply qA|apply qN|apply q1_|refine qS ?_ GE112.out)|exact HB.out)) hb);have n3_:=Zz.mk (hbox);have n4_:=Zz.mk ((by rw [hg];exact (qZ (by repeat (first|(with_reducible first|exact HB.out|apply qA|apply qN|apply q1_|refine qS ?_ GE112.out)|exact HB.out))):w.heap.size≤gb122));have n5_:=Zz.mk ((by rw [hg];exact (qZ (by repeat (first|(with_reducible first|exact HB.out|apply qA|apply qN|apply q1_|refine qS ?_ GE112.out)|exact HB.out))):w.heap.size≤gb122));have n6_:=Zz.mk ((by rw [hg];exact Nat.ne_of_lt (blk_lt (g:=gb112) (o:=.cells #[.slice A0_0 l0_0.length c0_0] 31 (0,0)) (by (with_reducible repeat first|apply bN|apply bD|apply bA);exact BK112.out)):gb112 ≠ gb122));have n7_:=Zz.mk ((by rw [hg];exact Nat.ne_of_gt (blk_lt (g:=gb112) (o:=.cells #[.slice A0_0 l0_0.length c0_0] 31 (0,0)) (by (with_reducible repeat first|apply bN|apply bD|apply bA);exact BK112.out)):gb122 ≠ gb112));clear HO_4;clear BK112;clear HB;have HO_4:=n0_;have BK112:=n1_;have HB:=n2_;have BK122:=n3_;have GW122:=n4_;have GE122:=n5_;have NB112_122:=n6_;have NB122_112:=n7_;clear n0_ n1_ n2_ n3_ n4_ n5_ n6_ n7_;clear hb hbox hg;have hnb34:=NB122_112.out;have hnc34:=NB112_122.out;have hcz35_0:w33.cell? ⟨gb122,0,none⟩=some (.int .i64 0):=(bC BK122.out 0).trans rfl;have hcz35_1:w33.cell? ⟨gb122,1,none⟩=some (.int .i64 0):=(bC BK122.out 1).trans rfl;have hcz35_2:w33.cell? ⟨gb122,2,none⟩=some (.bool false):=(bC BK122.out 2).trans rfl;have hfz35_0:=bF BK122.out 0;have hfz35_1:=bF BK122.out 1;have hfz35_2:=bF BK122.out 2)|((with_reducible refine gate_callee (f:=77) rfl ?_);refine goesL_ (some 25) rfl rfl Tryz.func77 (by kernel_rfl) rfl #[.int .i64 ((rd_T70 y117 x17_1).f1),.int .i64 0,.int .i64 x17_1] rfl (by (try simp only [List.map_toArray,List.map_cons,List.map_nil]);first|done|rfl|(simp only [List.length_drop,List.length_take];rfl)) ?_;(with_reducible refine (impl_in.calls ((rd_T70 y117 x17_1).f1) 0 x17_1 false _ A13.out).mono ?_);rintro e w' ⟨rfl,⟨nd,rfl⟩⟩;refine ⟨_,rfl,?_⟩))
         go_ret2
         exact ⟨_,by first|rfl|(simp [errW_none,errW_some] <;> rfl)|(simp [*,errW_none,errW_some] <;> rfl),by first|exact Kd.R_nil _ _ _ _ _|exact Kd.N_nil _ _ _ _ _|exact Kd.V_nil _ _ _ _ _|exact Kd.Q_nil _ _ _ _ _|exact Kd.S_nil _ _ _ _ _,by repeat (first|(with_reducible first|exact HB.out|apply qA|apply qN|apply q1_|refine qS ?_ GE112.out|refine qS ?_ GE122.out)|exact HB.out)⟩
       ·rw [if_neg c12] at H
        exact absurd H (by simp)
      ·rw [if_neg c11] at H
       exact absurd H (by simp)
     ·rw [if_neg c10] at H
      have c10b0:decide (x17_1<(y117.length:Int))=false:=decide_eq_false c10
      clear c10
      simp only [Option.some.injEq,Prod.mk.injEq] at H
      obtain ⟨rfl,rfl⟩:=H
      go_wp2
      go_ret2
      exact ⟨_,by first|rfl|(simp [errW_none,errW_some] <;> rfl)|(simp [*,errW_none,errW_some] <;> rfl),by (with_reducible repeat first|apply Kd.R_alloc|apply Kd.R_drewN|apply Kd.R_drew);exact HO_4.out,by repeat (first|(with_reducible first|exact HB.out|apply qA|apply qN|apply q1_|refine qS ?_ GE112.out)|exact HB.out)⟩
  ·rw [if_neg c4] at H
   exact absurd H (by simp)
 ·replace c3:=Bool.eq_false_iff.mpr c3
  subst c3
  have H1:(some (([]:List ByteArray),false))=some (r1,r2):=by rw [if_neg (show ¬ (false=true) by decide)] at H;exact H
  clear H
  have H:=H1
  clear H1
  simp only [Option.some.injEq,Prod.mk.injEq] at H
  obtain ⟨rfl,rfl⟩:=H
  go_enter Tryz.func57,Tryz.ntmps57
  go_wp2_with (first|((with_reducible refine gate_dst (N:=1) rfl ?_);refine box_event ?hg (N:=1) ?hd (cs:=#[.slice A0_0 l0_0.length c0_0]) (t:=31) ?hr ?_;(case hd=>rfl);(case hg=>rfl);(case hr=>first|(go_simp;done)|(go_simp;rfl));intro gb112 hg w36 hbox hb;have n0_:=Zz.mk (qP (by repeat (first|(with_reducible first|exact HB.out|apply qA|apply qN|apply q1_)|exact HB.out)) hb);have n1_:=Zz.mk (hbox);have n2_:=Zz.mk ((by rw [hg];exact (qZ (by repeat (first|(with_reducible first|exact HB.out|apply qA|apply qN|apply q1_)|exact HB.out))):w.heap.size≤gb112));have n3_:=Zz.mk ((by rw [hg];exact (qZ (by repeat (first|(with_reducible first|exact HB.out|apply qA|apply qN|apply q1_)|exact HB.out))):w.heap.size≤gb112));clear HB;have HB:=n0_;have BK112:=n1_;have GW112:=n2_;have GE112:=n3_;clear n0_ n1_ n2_ n3_;clear hb hbox hg)|((with_reducible refine gate_dst (N:=7) rfl ?_);refine Kd.R_lit Kd.string _ 9 ?hg (N:=7) ?hd (xs:=([(⟨#[]⟩:ByteArray)]:List ByteArray)) (inner:=[.string (⟨#[]⟩:ByteArray)]) (ok:=fun _=>True) (okp:=fun _=>True) ?hr ?hp (fun _ hk=>hk) trivial (Below.refl _ _) (Nat.le_refl _) (by simp) ?_;(case hd=>rfl);(case hg=>rfl);(case hr=>first|(go_simp;done)|(go_simp;rfl));(case hp=>exact (Reps.one (show Kd.M Kd.string _ _ _ (⟨#[]⟩:ByteArray) [.string (⟨#[]⟩:ByteArray)] from rfl) (Reps.none _ _)));intro v114 w37 ho38 hb hg_ hnew_;clear hg_ hnew_;(first|rw [← Ny113.out] at ho38|(simp only [Int.reduceToNat] at ho38;rw [← Ny113.out] at ho38));have n0_:=Zz.mk (Kd.R_lower ho38 (qZ (by repeat (first|(with_reducible first|exact HB.out|apply qA|apply qN|apply q1_|refine qS ?_ GE112.out)|exact HB.out))));have n1_:=Zz.mk (bB (g:=gb112) (o:=.cells #[.slice A0_0 l0_0.length c0_0] 31 (0,0)) (by (with_reducible repeat first|apply bN|apply bD|apply bA);exact BK112.out) hb);have n2_:=Zz.mk (qP (by repeat (first|(with_reducible first|exact HB.out|apply qA|apply qN|apply q1_|refine qS ?_ GE112.out)|exact HB.out)) hb);clear BK112;clear HB;have HO115:=n0_;have BK112:=n1_;have HB:=n2_;clear n0_ n1_ n2_;clear hb ho38;have hcz39_0:w37.cell? ⟨gb112,0,none⟩=some (.slice A0_0 l0_0.length c0_0):=(bC BK112.out 0).trans rfl;have hfz39_0:=bF BK112.out 0)|((with_reducible refine gate_callee (f:=77) rfl ?_);refine goesL_ (some 11) rfl rfl Tryz.func77 (by kernel_rfl) rfl #[.int .i64 (l0_0.length:Int),.int .i64 1,.int .i64 481] rfl (by (try simp only [List.map_toArray,List.map_cons,List.map_nil]);first|done|rfl|(simp only [List.length_drop,List.length_take];rfl)) ?_;(with_reducible refine (impl_in.calls (l0_0.length:Int) 1 481 false _ A2.out).mono ?_);rintro e w' ⟨rfl,⟨nd,rfl⟩⟩;refine ⟨_,rfl,?_⟩))
  go_ret2
  exact ⟨_,by first|rfl|(simp [errW_none,errW_some] <;> rfl)|(simp [*,errW_none,errW_some] <;> rfl),by first|exact Kd.R_nil _ _ _ _ _|exact Kd.N_nil _ _ _ _ _|exact Kd.V_nil _ _ _ _ _|exact Kd.Q_nil _ _ _ _ _|exact Kd.S_nil _ _ _ _ _,by repeat (first|(with_reducible first|exact HB.out|apply qA|apply qN|apply q1_|refine qS ?_ GE112.out)|exact HB.out)⟩
end Go.Proofs.YtadpmgdmiaoniaaGreatDoor.Q
namespace Go.Proofs.YtadpmgdmiaoniaaGreatDoor.Q
open Go.RowKit Go.Proofs.YtadpmgdmiaoniaaGreatDoorW.PrintWords Go.Proofs.YtadpmgdmiaoniaaGreatDoorW.PrintLast Go.Proofs.YtadpmgdmiaoniaaGreatDoorW.PrintMore
attribute [local go_sem] run_field_23 run_field_24 run_field_30 run_field_31 isSome_setCell max2_int min2_int max_two min_two max_three min_three max_four min_four   -- for this text's walks alone
set_option linter.unusedVariables false
set_option linter.unusedSimpArgs false
def impl_Trie_words.l0:Nat→List ByteArray→List ByteArray→List (S70)→Int→Int→Option (List ByteArray)
  | 0,_,_,_,_,_=>none
  | k+1,x3,x5,x15,x16,x17=>if x17<x16 then (if 0≤x17 then (if x17<(x15.length:Int) then (if (rd_T70 x15 x17).f2=true then (if x17<(x3.length:Int) then (if x5.length<8796093022208 then (impl_Trie_words.l0 k x3 (x5 ++ [rdOf ByteArray.empty x3 x17]) x15 x16 (wrap64 (x17+1))) else (none)) else (none)) else (impl_Trie_words.l0 k x3 x5 x15 x16 (wrap64 (x17+1)))) else (none)) else (none)) else (some x5)
def impl_Trie_words.f (k:Nat) (l0_0:List (S70)):Option (List ByteArray):=(impl_Trie_prefixes.f k l0_0).bind fun bt131=>(impl_Trie_words.l0 k bt131.1 (([]:List ByteArray)) l0_0 (l0_0.length:Int) 0)
set_option maxHeartbeats 8000000 in
set_option maxRecDepth 100000 in
theorem impl_Trie_words.calls (k:Nat) (A0_0:Option Addr) (c0_0:Nat) (l0_0:List (S70)) (r:List ByteArray) (w:World) (hr0_0:Kd.C k70 w A0_0 l0_0.length l0_0) (hc0_0:l0_0.length≤c0_0) (h:impl_Trie_words.f k l0_0=some r) :
  Calls Tryz.prog 47 #[.agg #[.slice A0_0 l0_0.length c0_0]] w fun e w'=>∃ v0_:Value,e=.returned (v0_)∧Kd.R Kd.string 9 w' w.heap.size (fun _=>True) v0_ r∧Below w.heap.size w w':=by
 have hu31:=Tryz.underlying31
 have hu70:=Tryz.underlying70
 have HR0_0:=Zz.mk hr0_0
 have HC0_0:=Zz.mk hc0_0
 clear hr0_0 hc0_0
 have HB:=Zz.mk (Below.refl w.heap.size w)
 have H:((impl_Trie_prefixes.f k l0_0).bind fun bt131=>(impl_Trie_words.l0 k bt131.1 (([]:List ByteArray)) l0_0 (l0_0.length:Int) 0))=some r:=h
 clear h
 replace H:=Option.bind_eq_some_iff.mp H
 obtain ⟨⟨t131,t134⟩,A20,H⟩:=H
 replace H:(impl_Trie_words.l0 k t131 (([]:List ByteArray)) l0_0 (l0_0.length:Int) 0)=some r:=H
 have A2:=Zz.mk A20
 clear A20
 obtain ⟨y135,hy135⟩:∃ y_:List ByteArray,y_=(([]:List ByteArray)):=⟨_,rfl⟩
 replace H:(impl_Trie_words.l0 k t131 y135 l0_0 (l0_0.length:Int) 0)=some r:=by first|(rw [hy135];with_reducible exact H)|(have H2_:=(Option.bind_some _ _).symm.trans H;rw [hy135];with_reducible exact H2_)|(have H2_:=(Option.bind_some _ _).symm.trans H;with_reducible exact H2_)|with_reducible exact H|(rw [hy135];exact H)|exact H
 have Ny135:=Zz.mk hy135
 clear hy135
 have H':=Zz.mk H
 clear H
 go_enter Tryz.func47,Tryz.ntmps47
 go_wp2_with (first|((with_reducible refine gate_dst (N:=1) rfl ?_);refine box_event ?hg (N:=1) ?hd (cs:=#[.slice A0_0 l0_0.length c0_0]) (t:=31) ?hr ?_;(case hd=>rfl);(case hg=>rfl);(case hr=>first|(go_simp;done)|(go_simp;rfl));intro gb130 hg w3 hbox hb;have n0_:=Zz.mk (qP (by repeat (first|(with_reducible first|exact HB.out|apply qA|apply qN|apply q1_)|exact HB.out)) hb);have n1_:=Zz.mk (hbox);have n2_:=Zz.mk ((by rw [hg];exact (qZ (by repeat (first|(with_reducible first|exact HB.out|apply qA|apply qN|apply q1_)|exact HB.out))):w.heap.size≤gb130));have n3_:=Zz.mk ((by rw [hg];exact (qZ (by repeat (first|(with_reducible first|exact HB.out|apply qA|apply qN|apply q1_)|exact HB.out))):w.heap.size≤gb130));clear HB;have HB:=n0_;have BK130:=n1_;have GW130:=n2_;have GE130:=n3_;clear n0_ n1_ n2_ n3_;clear hb hbox hg;have hcz4_0:w3.cell? ⟨gb130,0,none⟩=some (.slice A0_0 l0_0.length c0_0):=(bC BK130.out 0).trans rfl;have hfz4_0:=bF BK130.out 0)|((with_reducible refine gate_callee (f:=57) rfl ?_);refine goesL_ (some 10) rfl rfl Tryz.func57 (by kernel_rfl) rfl #[.agg #[.slice A0_0 l0_0.length c0_0]] rfl (by (try simp only [List.map_toArray,List.map_cons,List.map_nil]);first|done|rfl|(simp only [List.length_drop,List.length_take];rfl)) ?_;(with_reducible refine (impl_Trie_prefixes.calls k _ _ l0_0 t131 t134 _ ?side1 ?side2 A2.out).mono ?_);(case side1=>repeat (first|exact (Kd.C_below HR0_0.out HB.out)|(with_reducible refine Kd.C_alloc ?_ _)|(with_reducible refine Kd.C_drewN ?_ _)|(with_reducible refine Kd.C_drew ?_)));(case side2=>exact HC0_0.out);rintro e w5 ⟨v132,rfl,ho0,hb⟩;refine ⟨_,rfl,?_⟩;have n0_:=Zz.mk (Kd.R_lower ho0 (qZ (by repeat (first|(with_reducible first|exact HB.out|apply qA|apply qN|apply q1_|refine qS ?_ GE130.out)|exact HB.out))));have n1_:=Zz.mk (bB (g:=gb130) (o:=.cells #[.slice A0_0 l0_0.length c0_0] 31 (0,0)) (by (with_reducible repeat first|apply bN|apply bD|apply bA);exact BK130.out) hb);have n2_:=Zz.mk (qP (by repeat (first|(with_reducible first|exact HB.out|apply qA|apply qN|apply q1_|refine qS ?_ GE130.out)|exact HB.out)) hb);clear BK130;clear HB;have HO133:=n0_;have BK130:=n1_;have HB:=n2_;clear n0_ n1_ n2_;(try clear hb);(try clear hb2);(try clear hk);(try clear hi);(try clear ho0))|((with_reducible refine gate_dst (N:=13) rfl ?_);refine Kd.R_lit Kd.string _ 9 ?hg (N:=13) ?hd (xs:=([]:List ByteArray)) (inner:=[]) (ok:=fun _=>True) (okp:=fun _=>True) ?hr ?hp (fun _ hk=>hk) trivial (Below.refl _ _) (Nat.le_refl _) (by simp) ?_;(case hd=>rfl);(case hg=>rfl);(case hr=>first|(go_simp;done)|(go_simp;rfl));(case hp=>exact (Reps.none _ _));intro v136 w6 ho7 hb hg_ hnew_;clear hg_ hnew_;(first|rw [← Ny135.out] at ho7|(simp only [Int.reduceToNat] at ho7;rw [← Ny135.out] at ho7));have n0_:=Zz.mk (Kd.R_elder' (by (with_reducible repeat first|apply Kd.R_alloc|apply Kd.R_drewN|apply Kd.R_drew);exact HO133.out) (Kd.R_base ho7) hb);have n1_:=Zz.mk (Kd.R_lower (Kd.R_new' ho7 (Kd.R_lt (by (with_reducible repeat first|apply Kd.R_alloc|apply Kd.R_drewN|apply Kd.R_drew);exact HO133.out))) (qZ (by repeat (first|(with_reducible first|exact HB.out|apply qA|apply qN|apply q1_|refine qS ?_ GE130.out)|exact HB.out))));have n2_:=Zz.mk (bB (g:=gb130) (o:=.cells #[.slice A0_0 l0_0.length c0_0] 31 (0,0)) (by (with_reducible repeat first|apply bN|apply bD|apply bA);exact BK130.out) hb);have n3_:=Zz.mk (qP (by repeat (first|(with_reducible first|exact HB.out|apply qA|apply qN|apply q1_|refine qS ?_ GE130.out)|exact HB.out)) hb);clear HO133;clear BK130;clear HB;have HO133:=n0_;have HO137:=n1_;have BK130:=n2_;have HB:=n3_;clear n0_ n1_ n2_ n3_;clear hb ho7;have hcz8_0:w6.cell? ⟨gb130,0,none⟩=some (.slice A0_0 l0_0.length c0_0):=(bC BK130.out 0).trans rfl;have hfz8_0:=bF BK130.out 0))
 go_loopg [5,17] k (fun kq v5 v17 w'=>∃ (x5_1:List ByteArray) (x17_1:Int),v17=.int .i64 x17_1∧Zz (impl_Trie_words.l0 kq t131 x5_1 l0_0 (l0_0.length:Int) x17_1=some r)∧Zz (kq≤k)∧Zz (Kd.R Kd.string 9 w' w.heap.size (fun k_=>some k_ ≠ (v5:Value).ownBlock) v132 t131)∧Zz (Kd.R Kd.string 9 w' w.heap.size (fun k_=>some k_ ≠ (v132:Value).ownBlock) v5 x5_1)∧Zz (w'.heap[gb130]?=some (.cells #[(.slice A0_0 l0_0.length c0_0)] 31 (0,0)))∧Zz (Below w.heap.size w w'))
 case atStart=>exact ⟨(y135),(0),(by first|rfl|(simp;done)|(simp [*];done)),H',⟨Nat.le_refl _⟩,⟨by (with_reducible repeat first|apply Kd.R_alloc|apply Kd.R_drewN|apply Kd.R_drew);exact Kd.R_mono HO133.out (fun _ hk=>hk.2)⟩,⟨by (with_reducible repeat first|apply Kd.R_alloc|apply Kd.R_drewN|apply Kd.R_drew);exact Kd.R_mono HO137.out (fun _ hk=>hk.2)⟩,⟨by (with_reducible repeat first|apply bN|apply bD|apply bA);exact BK130.out⟩,⟨by repeat (first|(with_reducible first|exact HB.out|apply qA|apply qN|apply q1_|refine qS ?_ GE130.out)|exact HB.out)⟩⟩
 case round =>
  clear H'
  try clear p2
  try clear c4
  try clear c5
  try clear hcz4_0
  try clear hcz8_0
  try clear hfz4_0
  try clear hfz8_0
  obtain ⟨x5_1,x17_1,rfl,HA,HK1,HO_3,HO_5,BK130,HB⟩:=hrel
  cases gk with
  | zero=>exact absurd HA.out (by simp [impl_Trie_words.l0])
  | succ k1 =>
   have H:=HA.out
   clear HA
   simp only [impl_Trie_words.l0] at H
   by_cases c9:x17_1<(l0_0.length:Int)
   ·rw [if_pos c9] at H
    have c9b0:decide (x17_1<(l0_0.length:Int))=true:=decide_eq_true c9
    clear c9
    by_cases c10:0≤x17_1
    ·rw [if_pos c10] at H
     have c10b0:decide (0≤x17_1)=true:=decide_eq_true c10
     clear c10
     by_cases c11:x17_1<(l0_0.length:Int)
     ·rw [if_pos c11] at H
      have c11b0:decide (x17_1<(l0_0.length:Int))=true:=decide_eq_true c11
      clear c11
      obtain ⟨bq12,hbq12⟩:∃ b_:Bool,b_=((rd_T70 l0_0 x17_1).f2):=⟨_,rfl⟩
      replace H:(if bq12=true then (if x17_1<(t131.length:Int) then (if x5_1.length<8796093022208 then (impl_Trie_words.l0 k1 t131 (x5_1 ++ [rdOf ByteArray.empty t131 x17_1]) l0_0 (l0_0.length:Int) (wrap64 (x17_1+1))) else (none)) else (none)) else (impl_Trie_words.l0 k1 t131 x5_1 l0_0 (l0_0.length:Int) (wrap64 (x17_1+1))))=some r:=by rw [← hbq12] at H;exact H
      have Nbq12:=Zz.mk hbq12
      clear hbq12
      by_cases c13:bq12=true
      ·subst c13
       have H1:(if x17_1<(t131.length:Int) then (if x5_1.length<8796093022208 then (impl_Trie_words.l0 k1 t131 (x5_1 ++ [rdOf ByteArray.empty t131 x17_1]) l0_0 (l0_0.length:Int) (wrap64 (x17_1+1))) else (none)) else (none))=some r:=by rw [if_pos rfl] at H;exact H
       clear H
       have H:=H1
       clear H1
       by_cases c14:x17_1<(t131.length:Int)
       ·rw [if_pos c14] at H
        have c14b0:decide (x17_1<(t131.length:Int))=true:=decide_eq_true c14
        clear c14
        by_cases c15:x5_1.length<8796093022208
        ·rw [if_pos c15] at H
         have LMc15:=Zz.mk c15
         clear c15
         obtain ⟨y141,hy141⟩:∃ y_:List ByteArray,y_=(x5_1 ++ [rdOf ByteArray.empty t131 x17_1]):=⟨_,rfl⟩
         replace H:(impl_Trie_words.l0 k1 t131 y141 l0_0 (l0_0.length:Int) (wrap64 (x17_1+1)))=some r:=by first|(rw [hy141];with_reducible exact H)|(have H2_:=(Option.bind_some _ _).symm.trans H;rw [hy141];with_reducible exact H2_)|(have H2_:=(Option.bind_some _ _).symm.trans H;with_reducible exact H2_)|with_reducible exact H|(rw [hy141];exact H)|exact H
         have Ny141:=Zz.mk hy141
         clear hy141
         have H':=Zz.mk H
         clear H
         have p138:0≤(x17_1:Int):=of_decide_eq_true (by first|(with_reducible assumption)|assumption)
         have q138:x17_1<(l0_0.length:Int):=of_decide_eq_true (by first|(with_reducible assumption)|assumption)
         obtain ⟨ad138,e138,hx138_0,hx138_1,hx138_2⟩:=at_T70 HR0_0.out x17_1 p138 q138
         (try rw [← Nbq12.out] at hx138_2)
         cases e138
         replace hx138_0:=(HB.out.cell (World.block_lt_of_cell? w _ hx138_0)).trans hx138_0
         replace hx138_1:=(HB.out.cell (World.block_lt_of_cell? w _ hx138_1)).trans hx138_1
         replace hx138_2:=(HB.out.cell (World.block_lt_of_cell? w _ hx138_2)).trans hx138_2
         replace p138:=eq_true p138
         replace q138:=eq_true q138
         go_wp2_with (first|((with_reducible refine gate_dst (N:=7) rfl ?_);refine box_event ?hg (N:=7) ?hd (cs:=#[.int .i64 0,.int .i64 0,.bool false]) (t:=70) ?hr ?_;(case hd=>rfl);(case hg=>rfl);(case hr=>first|(go_simp;done)|(go_simp;rfl));intro gb139 hg w16 hbox hb;have n0_:=Zz.mk (Kd.R_below (by (with_reducible repeat first|apply Kd.R_alloc|apply Kd.R_drewN|apply Kd.R_drew);exact HO_3.out) hb);have n1_:=Zz.mk (Kd.R_below (by (with_reducible repeat first|apply Kd.R_alloc|apply Kd.R_drewN|apply Kd.R_drew);exact HO_5.out) hb);have n2_:=Zz.mk (bB (g:=gb130) (o:=.cells #[.slice (some ad138) l0_0.length c0_0] 31 (0,0)) (by (with_reducible repeat first|apply bN|apply bD|apply bA);exact BK130.out) hb);have n3_:=Zz.mk (qP (by repeat (first|(with_reducible first|exact HB.out|apply qA|apply qN|apply q1_|refine qS ?_ GE130.out)|exact HB.out)) hb);have n4_:=Zz.mk (hbox);have n5_:=Zz.mk ((by rw [hg];exact (qZ (by repeat (first|(with_reducible first|exact HB.out|apply qA|apply qN|apply q1_|refine qS ?_ GE130.out)|exact HB.out))):w.heap.size≤gb139));have n6_:=Zz.mk ((by rw [hg];exact (qZ (by repeat (first|(with_reducible first|exact HB.out|apply qA|apply qN|apply q1_|refine qS ?_ GE130.out)|exact HB.out))):w.heap.size≤gb139));have n7_:=Zz.mk ((by rw [hg];exact Nat.ne_of_lt (blk_lt (g:=gb130) (o:=.cells #[.slice (some ad138) l0_0.length c0_0] 31 (0,0)) (by (with_reducible repeat first|apply bN|apply bD|apply bA);exact BK130.out)):gb130 ≠ gb139));have n8_:=Zz.mk ((by rw [hg];exact Nat.ne_of_gt (blk_lt (g:=gb130) (o:=.cells #[.slice (some ad138) l0_0.length c0_0] 31 (0,0)) (by (with_reducible repeat first|apply bN|apply bD|apply bA);exact BK130.out)):gb139 ≠ gb130));clear HO_3;clear HO_5;clear BK130;clear HB;have HO_3:=n0_;have HO_5:=n1_;have BK130:=n2_;have HB:=n3_;have BK139:=n4_;have GW139:=n5_;have GE139:=n6_;have NB130_139:=n7_;have NB139_130:=n8_;clear n0_ n1_ n2_ n3_ n4_ n5_ n6_ n7_ n8_;clear hb hbox hg;have hnb17:=NB139_130.out;have hnc17:=NB130_139.out;have hcz18_0:w16.cell? ⟨gb139,0,none⟩=some (.int .i64 0):=(bC BK139.out 0).trans rfl;have hcz18_1:w16.cell? ⟨gb139,1,none⟩=some (.int .i64 0):=(bC BK139.out 1).trans rfl;have hcz18_2:w16.cell? ⟨gb139,2,none⟩=some (.bool false):=(bC BK139.out 2).trans rfl;have hfz18_0:=bF BK139.out 0;have hfz18_1:=bF BK139.out 1;have hfz18_2:=bF BK139.out 2;obtain ⟨Ao19,co19,eo19⟩:=Kd.R_slice HO_3.out;subst eo19;have p140:0≤(x17_1:Int):=of_decide_eq_true (by first|(with_reducible assumption)|assumption);have q140:x17_1<(t131.length:Int):=of_decide_eq_true (by first|(with_reducible assumption)|assumption);obtain ⟨ad140,e140,hx140_0⟩:=Kd.at_string (Kd.R_reads' HO_3.out).2.2 x17_1 p140 q140;cases e140;have hn140_0:ad140.block ≠ gb139:=Kd.own_blk (Kd.R_ne HO_3.out BK139.out (by decide));have hn140_1:ad140.block ≠ gb139:=Kd.own_blk (Kd.R_ne HO_3.out BK139.out (by decide));have hn140_2:ad140.block ≠ gb139:=Kd.own_blk (Kd.R_ne HO_3.out BK139.out (by decide));replace hx140_0:=(cell_far (p:=⟨gb139,0,none⟩) (by first|(rw [add_block];exact hn140_0)|(show (Addr.add _ _).block ≠ _;rw [add_block];exact hn140_0)|exact hn140_0) (.int .i64 ((rd_T70 l0_0 x17_1).f0))).trans hx140_0;replace hx140_0:=(cell_far (p:=⟨gb139,1,none⟩) (by first|(rw [add_block];exact hn140_1)|(show (Addr.add _ _).block ≠ _;rw [add_block];exact hn140_1)|exact hn140_1) (.int .i64 ((rd_T70 l0_0 x17_1).f1))).trans hx140_0;replace hx140_0:=(cell_far (p:=⟨gb139,2,none⟩) (by first|(rw [add_block];exact hn140_2)|(show (Addr.add _ _).block ≠ _;rw [add_block];exact hn140_2)|exact hn140_2) (.bool true)).trans hx140_0;clear hn140_0;clear hn140_1;clear hn140_2;replace p140:=eq_true p140;replace q140:=eq_true q140)|((with_reducible refine gate_builtin (b:=.append) (xs:=#[.tmp 24,.tmp 29]) rfl ?_);at_builtin;refine Kd.R_append Kd.string (w0:=w) w.heap.size rfl (.tmp 24) (.tmp 29) 43 9 (.string ⟨#[]⟩) 16 rfl Tryz.underlying43 info9 rfl (by decide) (by omega) u5 x5_1 (rdOf ByteArray.empty t131 x17_1) [.string (rdOf ByteArray.empty t131 x17_1)] (fun k_=>some k_ ≠ (.slice (some ad140) t131.length co19:Value).ownBlock) (fun _=>False) rfl (by first|(go_simp;done)|(go_simp;rfl)) ?aP (fun _ hk=>hk.elim) ?aF ?aO ?aB ?aS ?aL ?_;(case aP=>exact rfl);(case aB=>exact (by repeat (first|(with_reducible first|exact HB.out|apply qA|apply qN|apply q1_|refine qS ?_ GE130.out|refine qS ?_ GE139.out)|exact HB.out)));(case aF=>exact (fun k_ hk=>Kd.fresh' (Kd.R_lt (by (with_reducible repeat first|apply Kd.R_alloc|apply Kd.R_drewN|apply Kd.R_drew);exact (Kd.R_mono (R_same_ (Kd.R_far (p:=⟨gb139,2,none⟩) (Kd.R_far (p:=⟨gb139,1,none⟩) (Kd.R_far (p:=⟨gb139,0,none⟩) (Kd.R_types HO_3.out BK139.out (by decide)) (fun _ hk=>hk.2) (.int .i64 ((rd_T70 l0_0 x17_1).f0))) (fun _ hk=>hk.2) (.int .i64 ((rd_T70 l0_0 x17_1).f1))) (fun _ hk=>hk.2) (.bool true)) rfl) (fun _ h_=>h_.1)))) k_ hk));(case aO=>exact (by (with_reducible repeat first|apply Kd.R_alloc|apply Kd.R_drewN|apply Kd.R_drew);exact Kd.R_mono (R_same_ (Kd.R_far (p:=⟨gb139,2,none⟩) (Kd.R_far (p:=⟨gb139,1,none⟩) (Kd.R_far (p:=⟨gb139,0,none⟩) (Kd.R_types HO_5.out BK139.out (by decide)) (fun _ hk=>hk.2) (.int .i64 ((rd_T70 l0_0 x17_1).f0))) (fun _ hk=>hk.2) (.int .i64 ((rd_T70 l0_0 x17_1).f1))) (fun _ hk=>hk.2) (.bool true)) rfl) (fun _ hk=>hk.1)));(case aS=>exact (qZ (by repeat (first|(with_reducible first|exact HB.out|apply qA|apply qN|apply q1_|refine qS ?_ GE130.out|refine qS ?_ GE139.out)|exact HB.out))));(case aL=>have:=LMc15.out;omega);intro v142 w20 ho hb hg hat;rw [← Ny141.out] at ho;have n0_:=Zz.mk (Kd.R_after (ok:=(fun _=>True)) (by (with_reducible repeat first|apply Kd.R_alloc|apply Kd.R_drewN|apply Kd.R_drew);exact Kd.R_mono (R_same_ (Kd.R_far (p:=⟨gb139,2,none⟩) (Kd.R_far (p:=⟨gb139,1,none⟩) (Kd.R_far (p:=⟨gb139,0,none⟩) (Kd.R_types HO_3.out BK139.out (by decide)) (fun _ hk=>hk.2) (.int .i64 ((rd_T70 l0_0 x17_1).f0))) (fun _ hk=>hk.2) (.int .i64 ((rd_T70 l0_0 x17_1).f1))) (fun _ hk=>hk.2) (.bool true)) rfl) (fun _ hk=>⟨trivial,hk.1⟩)) hg hat);have n1_:=Zz.mk (blk_grown (g:=gb130) (o:=.cells #[.slice (some ad138) l0_0.length c0_0] 31 (0,0)) (by (with_reducible repeat first|apply bN|apply bD|apply bA);refine blk_far ?_ NB130_139.out _;(with_reducible repeat first|apply bN|apply bD|apply bA);refine blk_far ?_ NB130_139.out _;(with_reducible repeat first|apply bN|apply bD|apply bA);refine blk_far ?_ NB130_139.out _;(with_reducible repeat first|apply bN|apply bD|apply bA);exact BK130.out) hg (Kd.R_ne HO_5.out BK130.out (by decide)));have n2_:=Zz.mk (blk_grown (g:=gb139) (o:=.cells #[.int .i64 ((rd_T70 l0_0 x17_1).f0),.int .i64 ((rd_T70 l0_0 x17_1).f1),.bool true] 70 (0,0)) (by (with_reducible repeat first|apply bN|apply bD|apply bA);refine blk_put (cs:=#[.int .i64 ((rd_T70 l0_0 x17_1).f0),.int .i64 ((rd_T70 l0_0 x17_1).f1),.bool false]) ?_ 2 _ rfl;(with_reducible repeat first|apply bN|apply bD|apply bA);refine blk_put (cs:=#[.int .i64 ((rd_T70 l0_0 x17_1).f0),.int .i64 0,.bool false]) ?_ 1 _ rfl;(with_reducible repeat first|apply bN|apply bD|apply bA);refine blk_put (cs:=#[.int .i64 0,.int .i64 0,.bool false]) ?_ 0 _ rfl;(with_reducible repeat first|apply bN|apply bD|apply bA);exact BK139.out) hg (Kd.R_ne HO_5.out BK139.out (by decide)));have n3_:=Zz.mk (hb);have n4_:=Zz.mk (ho);clear HO_3;clear BK130;clear BK139;clear HB;clear HO_5;have HO_3:=n0_;have BK130:=n1_;have BK139:=n2_;have HB:=n3_;have HO143:=n4_;clear n0_ n1_ n2_ n3_ n4_;clear ho hb hg hat))
         go_roundg k1
         case measure=>have:=HK1.out;omega
         case rel=>exact ⟨(y141),(wrap64 (x17_1+1)),(by first|rfl|(simp;done)|(simp [*];done)),H',⟨by have:=HK1.out;omega⟩,⟨by (with_reducible repeat first|apply Kd.R_alloc|apply Kd.R_drewN|apply Kd.R_drew);exact Kd.R_mono HO_3.out (fun _ hk=>hk.2)⟩,⟨by (with_reducible repeat first|apply Kd.R_alloc|apply Kd.R_drewN|apply Kd.R_drew);exact HO143.out⟩,⟨by (with_reducible repeat first|apply bN|apply bD|apply bA);exact BK130.out⟩,⟨by repeat (first|(with_reducible first|exact HB.out|apply qA|apply qN|apply q1_|refine qS ?_ GE130.out|refine qS ?_ GE139.out)|exact HB.out)⟩⟩
        ·rw [if_neg c15] at H
         exact absurd H (by simp)
       ·rw [if_neg c14] at H
        exact absurd H (by simp)
      ·replace c13:=Bool.eq_false_iff.mpr c13
       subst c13
       have H1:(impl_Trie_words.l0 k1 t131 x5_1 l0_0 (l0_0.length:Int) (wrap64 (x17_1+1)))=some r:=by rw [if_neg (show ¬ (false=true) by decide)] at H;exact H
       clear H
       have H:=H1
       clear H1
       have H':=Zz.mk H
       clear H
       have p138:0≤(x17_1:Int):=of_decide_eq_true (by first|(with_reducible assumption)|assumption)
       have q138:x17_1<(l0_0.length:Int):=of_decide_eq_true (by first|(with_reducible assumption)|assumption)
       obtain ⟨ad138,e138,hx138_0,hx138_1,hx138_2⟩:=at_T70 HR0_0.out x17_1 p138 q138
       (try rw [← Nbq12.out] at hx138_2)
       cases e138
       replace hx138_0:=(HB.out.cell (World.block_lt_of_cell? w _ hx138_0)).trans hx138_0
       replace hx138_1:=(HB.out.cell (World.block_lt_of_cell? w _ hx138_1)).trans hx138_1
       replace hx138_2:=(HB.out.cell (World.block_lt_of_cell? w _ hx138_2)).trans hx138_2
       replace p138:=eq_true p138
       replace q138:=eq_true q138
       go_wp2_with (first|((with_reducible refine gate_dst (N:=7) rfl ?_);refine box_event ?hg (N:=7) ?hd (cs:=#[.int .i64 0,.int .i64 0,.bool false]) (t:=70) ?hr ?_;(case hd=>rfl);(case hg=>rfl);(case hr=>first|(go_simp;done)|(go_simp;rfl));intro gb139 hg w21 hbox hb;have n0_:=Zz.mk (Kd.R_below (by (with_reducible repeat first|apply Kd.R_alloc|apply Kd.R_drewN|apply Kd.R_drew);exact HO_3.out) hb);have n1_:=Zz.mk (Kd.R_below (by (with_reducible repeat first|apply Kd.R_alloc|apply Kd.R_drewN|apply Kd.R_drew);exact HO_5.out) hb);have n2_:=Zz.mk (bB (g:=gb130) (o:=.cells #[.slice (some ad138) l0_0.length c0_0] 31 (0,0)) (by (with_reducible repeat first|apply bN|apply bD|apply bA);exact BK130.out) hb);have n3_:=Zz.mk (qP (by repeat (first|(with_reducible first|exact HB.out|apply qA|apply qN|apply q1_|refine qS ?_ GE130.out)|exact HB.out)) hb);have n4_:=Zz.mk (hbox);have n5_:=Zz.mk ((by rw [hg];exact (qZ (by repeat (first|(with_reducible first|exact HB.out|apply qA|apply qN|apply q1_|refine qS ?_ GE130.out)|exact HB.out))):w.heap.size≤gb139));have n6_:=Zz.mk ((by rw [hg];exact (qZ (by repeat (first|(with_reducible first|exact HB.out|apply qA|apply qN|apply q1_|refine qS ?_ GE130.out)|exact HB.out))):w.heap.size≤gb139));have n7_:=Zz.mk ((by rw [hg];exact Nat.ne_of_lt (blk_lt (g:=gb130) (o:=.cells #[.slice (some ad138) l0_0.length c0_0] 31 (0,0)) (by (with_reducible repeat first|apply bN|apply bD|apply bA);exact BK130.out)):gb130 ≠ gb139));have n8_:=Zz.mk ((by rw [hg];exact Nat.ne_of_gt (blk_lt (g:=gb130) (o:=.cells #[.slice (some ad138) l0_0.length c0_0] 31 (0,0)) (by (with_reducible repeat first|apply bN|apply bD|apply bA);exact BK130.out)):gb139 ≠ gb130));clear HO_3;clear HO_5;clear BK130;clear HB;have HO_3:=n0_;have HO_5:=n1_;have BK130:=n2_;have HB:=n3_;have BK139:=n4_;have GW139:=n5_;have GE139:=n6_;have NB130_139:=n7_;have NB139_130:=n8_;clear n0_ n1_ n2_ n3_ n4_ n5_ n6_ n7_ n8_;clear hb hbox hg;have hnb22:=NB139_130.out;have hnc22:=NB130_139.out;have hcz23_0:w21.cell? ⟨gb139,0,none⟩=some (.int .i64 0):=(bC BK139.out 0).trans rfl;have hcz23_1:w21.cell? ⟨gb139,1,none⟩=some (.int .i64 0):=(bC BK139.out 1).trans rfl;have hcz23_2:w21.cell? ⟨gb139,2,none⟩=some (.bool false):=(bC BK139.out 2).trans rfl;have hfz23_0:=bF BK139.out 0;have hfz23_1:=bF BK139.out 1;have hfz23_2:=bF BK139.out 2))
       go_roundg k1
       case measure=>have:=HK1.out;omega
       case rel=>exact ⟨(x5_1),(wrap64 (x17_1+1)),(by first|rfl|(simp;done)|(simp [*];done)),H',⟨by have:=HK1.out;omega⟩,⟨by (with_reducible repeat first|apply Kd.R_alloc|apply Kd.R_drewN|apply Kd.R_drew);exact Kd.R_mono (R_same_ (Kd.R_far (p:=⟨gb139,2,none⟩) (Kd.R_far (p:=⟨gb139,1,none⟩) (Kd.R_far (p:=⟨gb139,0,none⟩) (Kd.R_types HO_3.out BK139.out (by decide)) (fun _ hk=>hk.2) (.int .i64 ((rd_T70 l0_0 x17_1).f0))) (fun _ hk=>hk.2) (.int .i64 ((rd_T70 l0_0 x17_1).f1))) (fun _ hk=>hk.2) (.bool false)) rfl) (fun _ hk=>hk.1)⟩,⟨by (with_reducible repeat first|apply Kd.R_alloc|apply Kd.R_drewN|apply Kd.R_drew);exact Kd.R_mono (R_same_ (Kd.R_far (p:=⟨gb139,2,none⟩) (Kd.R_far (p:=⟨gb139,1,none⟩) (Kd.R_far (p:=⟨gb139,0,none⟩) (Kd.R_types HO_5.out BK139.out (by decide)) (fun _ hk=>hk.2) (.int .i64 ((rd_T70 l0_0 x17_1).f0))) (fun _ hk=>hk.2) (.int .i64 ((rd_T70 l0_0 x17_1).f1))) (fun _ hk=>hk.2) (.bool false)) rfl) (fun _ hk=>hk.1)⟩,⟨by (with_reducible repeat first|apply bN|apply bD|apply bA);refine blk_far ?_ NB130_139.out _;(with_reducible repeat first|apply bN|apply bD|apply bA);refine blk_far ?_ NB130_139.out _;(with_reducible repeat first|apply bN|apply bD|apply bA);refine blk_far ?_ NB130_139.out _;(with_reducible repeat first|apply bN|apply bD|apply bA);exact BK130.out⟩,⟨by repeat (first|(with_reducible first|exact HB.out|apply qA|apply qN|apply q1_|refine qS ?_ GE130.out|refine qS ?_ GE139.out)|exact HB.out)⟩⟩
     ·rw [if_neg c11] at H
      exact absurd H (by simp)
    ·rw [if_neg c10] at H
     exact absurd H (by simp)
   ·rw [if_neg c9] at H
    have c9b0:decide (x17_1<(l0_0.length:Int))=false:=decide_eq_false c9
    clear c9
    obtain rfl:=Option.some.inj H
    go_wp2
    go_ret
    exact ⟨_,by first|rfl|(simp [errW_none,errW_some] <;> rfl)|(simp [*,errW_none,errW_some] <;> rfl),by (with_reducible repeat first|apply Kd.R_alloc|apply Kd.R_drewN|apply Kd.R_drew);exact Kd.R_mono HO_5.out (fun _ hk=>trivial),by repeat (first|(with_reducible first|exact HB.out|apply qA|apply qN|apply q1_|refine qS ?_ GE130.out)|exact HB.out)⟩
def laws_szNodeS.f (l0:List (S75)) (a1:Int):Option (Int):=if (wrap64 (a1 - (l0.length:Int)))<0 then (some (-1)) else (some (wrap64 (a1 - (l0.length:Int))))
set_option maxHeartbeats 8000000 in
set_option maxRecDepth 100000 in
theorem laws_szNodeS.calls (A0:Option Addr) (c0:Nat) (l0:List (S75)) (a1:Int) (r:Int) (w:World) (hr0:Kd.C k75 w A0 l0.length l0) (hc0:l0.length≤c0) (h:laws_szNodeS.f l0 a1=some r) :
  Calls Tryz.prog 25 #[.slice A0 l0.length c0,.int .i64 a1] w fun e w'=>e=.returned (.int .i64 r)∧Drawn0 w w':=by
 have HR0:=Zz.mk hr0
 have HC0:=Zz.mk hc0
 clear hr0 hc0
 have H:(if (wrap64 (a1 - (l0.length:Int)))<0 then (some (-1)) else (some (wrap64 (a1 - (l0.length:Int)))))=some r:=h
 clear h
 by_cases c3:(wrap64 (a1 - (l0.length:Int)))<0
 ·rw [if_pos c3] at H
  have c3b0:decide ((wrap64 (a1 - (l0.length:Int)))<0)=true:=decide_eq_true c3
  clear c3
  obtain rfl:=Option.some.inj H
  go_enter Tryz.func25,Tryz.ntmps25
  go_wp2
  go_ret
  exact ⟨by first|rfl|(simp;done)|(simp [*];done),by repeat (first|exact Drawn0.refl _|apply Drawn0.step)⟩
 ·rw [if_neg c3] at H
  have c3b0:decide ((wrap64 (a1 - (l0.length:Int)))<0)=false:=decide_eq_false c3
  clear c3
  obtain rfl:=Option.some.inj H
  go_enter Tryz.func25,Tryz.ntmps25
  go_wp2
  go_ret
  exact ⟨by first|rfl|(simp;done)|(simp [*];done),by repeat (first|exact Drawn0.refl _|apply Drawn0.step)⟩
def laws_szTrie.f (l0_0:List (S75)) (a1:Int):Option (Int):=(laws_szNodeS.f l0_0 a1).bind fun t145=>(if t145<0 then (some (-1)) else (some t145))
set_option maxHeartbeats 8000000 in
set_option maxRecDepth 100000 in
theorem laws_szTrie.calls (A0_0:Option Addr) (c0_0:Nat) (l0_0:List (S75)) (a1:Int) (r:Int) (w:World) (hr0_0:Kd.C k75 w A0_0 l0_0.length l0_0) (hc0_0:l0_0.length≤c0_0) (h:laws_szTrie.f l0_0 a1=some r) :
  Calls Tryz.prog 6 #[.agg #[.slice A0_0 l0_0.length c0_0],.int .i64 a1] w fun e w'=>e=.returned (.int .i64 r)∧Below w.heap.size w w':=by
 have hu24:=Tryz.underlying24
 have HR0_0:=Zz.mk hr0_0
 have HC0_0:=Zz.mk hc0_0
 clear hr0_0 hc0_0
 have HB:=Zz.mk (Below.refl w.heap.size w)
 have H:((laws_szNodeS.f l0_0 a1).bind fun t145=>(if t145<0 then (some (-1)) else (some t145)))=some r:=h
 clear h
 replace H:=Option.bind_eq_some_iff.mp H
 obtain ⟨t145,A30,H⟩:=H
 replace H:(if t145<0 then (some (-1)) else (some t145))=some r:=H
 have A3:=Zz.mk A30
 clear A30
 by_cases c4:t145<0
 ·rw [if_pos c4] at H
  have c4b0:decide (t145<0)=true:=decide_eq_true c4
  clear c4
  obtain rfl:=Option.some.inj H
  go_enter Tryz.func6,Tryz.ntmps6
  go_wp2_with (first|((with_reducible refine gate_dst (N:=2) rfl ?_);refine box_event ?hg (N:=2) ?hd (cs:=#[.slice A0_0 l0_0.length c0_0]) (t:=24) ?hr ?_;(case hd=>rfl);(case hg=>rfl);(case hr=>first|(go_simp;done)|(go_simp;rfl));intro gb144 hg w5 hbox hb;have n0_:=Zz.mk (qP (by repeat (first|(with_reducible first|exact HB.out|apply qA|apply qN|apply q1_)|exact HB.out)) hb);have n1_:=Zz.mk (hbox);have n2_:=Zz.mk ((by rw [hg];exact (qZ (by repeat (first|(with_reducible first|exact HB.out|apply qA|apply qN|apply q1_)|exact HB.out))):w.heap.size≤gb144));have n3_:=Zz.mk ((by rw [hg];exact (qZ (by repeat (first|(with_reducible first|exact HB.out|apply qA|apply qN|apply q1_)|exact HB.out))):w.heap.size≤gb144));clear HB;have HB:=n0_;have BK144:=n1_;have GW144:=n2_;have GE144:=n3_;clear n0_ n1_ n2_ n3_;clear hb hbox hg;have hcz6_0:w5.cell? ⟨gb144,0,none⟩=some (.slice A0_0 l0_0.length c0_0):=(bC BK144.out 0).trans rfl;have hfz6_0:=bF BK144.out 0)|((with_reducible refine gate_callee (f:=25) rfl ?_);refine goesL_ (some 8) rfl rfl Tryz.func25 (by kernel_rfl) rfl #[.slice A0_0 l0_0.length c0_0,.int .i64 a1] rfl (by (try simp only [List.map_toArray,List.map_cons,List.map_nil]);first|done|rfl|(simp only [List.length_drop,List.length_take];rfl)) ?_;(with_reducible refine (laws_szNodeS.calls _ _ l0_0 a1 t145 _ ?side1 ?side2 A3.out).mono ?_);(case side1=>repeat (first|exact (Kd.C_below HR0_0.out HB.out)|(with_reducible refine Kd.C_alloc ?_ _)|(with_reducible refine Kd.C_drewN ?_ _)|(with_reducible refine Kd.C_drew ?_)));(case side2=>exact HC0_0.out);rintro e w' ⟨rfl,⟨nd,rfl⟩⟩;refine ⟨_,rfl,?_⟩))
  go_ret
  exact ⟨by first|rfl|(simp [errW_none,errW_some] <;> rfl)|(simp [*,errW_none,errW_some] <;> rfl),by repeat (first|(with_reducible first|exact HB.out|apply qA|apply qN|apply q1_|refine qS ?_ GE144.out)|exact HB.out)⟩
 ·rw [if_neg c4] at H
  have c4b0:decide (t145<0)=false:=decide_eq_false c4
  clear c4
  obtain rfl:=Option.some.inj H
  go_enter Tryz.func6,Tryz.ntmps6
  go_wp2_with (first|((with_reducible refine gate_dst (N:=2) rfl ?_);refine box_event ?hg (N:=2) ?hd (cs:=#[.slice A0_0 l0_0.length c0_0]) (t:=24) ?hr ?_;(case hd=>rfl);(case hg=>rfl);(case hr=>first|(go_simp;done)|(go_simp;rfl));intro gb144 hg w7 hbox hb;have n0_:=Zz.mk (qP (by repeat (first|(with_reducible first|exact HB.out|apply qA|apply qN|apply q1_)|exact HB.out)) hb);have n1_:=Zz.mk (hbox);have n2_:=Zz.mk ((by rw [hg];exact (qZ (by repeat (first|(with_reducible first|exact HB.out|apply qA|apply qN|apply q1_)|exact HB.out))):w.heap.size≤gb144));have n3_:=Zz.mk ((by rw [hg];exact (qZ (by repeat (first|(with_reducible first|exact HB.out|apply qA|apply qN|apply q1_)|exact HB.out))):w.heap.size≤gb144));clear HB;have HB:=n0_;have BK144:=n1_;have GW144:=n2_;have GE144:=n3_;clear n0_ n1_ n2_ n3_;clear hb hbox hg;have hcz8_0:w7.cell? ⟨gb144,0,none⟩=some (.slice A0_0 l0_0.length c0_0):=(bC BK144.out 0).trans rfl;have hfz8_0:=bF BK144.out 0)|((with_reducible refine gate_callee (f:=25) rfl ?_);refine goesL_ (some 8) rfl rfl Tryz.func25 (by kernel_rfl) rfl #[.slice A0_0 l0_0.length c0_0,.int .i64 a1] rfl (by (try simp only [List.map_toArray,List.map_cons,List.map_nil]);first|done|rfl|(simp only [List.length_drop,List.length_take];rfl)) ?_;(with_reducible refine (laws_szNodeS.calls _ _ l0_0 a1 t145 _ ?side1 ?side2 A3.out).mono ?_);(case side1=>repeat (first|exact (Kd.C_below HR0_0.out HB.out)|(with_reducible refine Kd.C_alloc ?_ _)|(with_reducible refine Kd.C_drewN ?_ _)|(with_reducible refine Kd.C_drew ?_)));(case side2=>exact HC0_0.out);rintro e w' ⟨rfl,⟨nd,rfl⟩⟩;refine ⟨_,rfl,?_⟩))
  go_ret
  exact ⟨by first|rfl|(simp [errW_none,errW_some] <;> rfl)|(simp [*,errW_none,errW_some] <;> rfl),by repeat (first|(with_reducible first|exact HB.out|apply qA|apply qN|apply q1_|refine qS ?_ GE144.out)|exact HB.out)⟩
def laws_toNode.f (a0_0:Int) (a0_1:Int) (a0_2:Bool):Option (Int × Int × Bool):=some (a0_0,a0_1,a0_2)
set_option maxHeartbeats 8000000 in
set_option maxRecDepth 100000 in
theorem laws_toNode.calls (a0_0:Int) (a0_1:Int) (a0_2:Bool) (r1:Int) (r2:Int) (r3:Bool) (w:World) (h:laws_toNode.f a0_0 a0_1 a0_2=some (r1,r2,r3)) :
  Calls Tryz.prog 44 #[.agg #[.int .i64 a0_0,.int .i64 a0_1,.bool a0_2]] w fun e w'=>e=.returned (.agg #[.int .i64 r1,.int .i64 r2,.bool r3])∧Below w.heap.size w w':=by
 have hu75:=Tryz.underlying75
 have hu70:=Tryz.underlying70
 have HB:=Zz.mk (Below.refl w.heap.size w)
 have H:(some (a0_0,a0_1,a0_2))=some (r1,r2,r3):=h
 clear h
 simp only [Option.some.injEq,Prod.mk.injEq] at H
 obtain ⟨rfl,rfl,rfl⟩:=H
 go_enter Tryz.func44,Tryz.ntmps44
 go_wp2_with (first|((with_reducible refine gate_dst (N:=1) rfl ?_);refine box_event ?hg (N:=1) ?hd (cs:=#[.int .i64 a0_0,.int .i64 a0_1,.bool a0_2]) (t:=75) ?hr ?_;(case hd=>rfl);(case hg=>rfl);(case hr=>first|(go_simp;done)|(go_simp;rfl));intro gb146 hg w2 hbox hb;have n0_:=Zz.mk (qP (by repeat (first|(with_reducible first|exact HB.out|apply qA|apply qN|apply q1_)|exact HB.out)) hb);have n1_:=Zz.mk (hbox);have n2_:=Zz.mk ((by rw [hg];exact (qZ (by repeat (first|(with_reducible first|exact HB.out|apply qA|apply qN|apply q1_)|exact HB.out))):w.heap.size≤gb146));have n3_:=Zz.mk ((by rw [hg];exact (qZ (by repeat (first|(with_reducible first|exact HB.out|apply qA|apply qN|apply q1_)|exact HB.out))):w.heap.size≤gb146));clear HB;have HB:=n0_;have BK146:=n1_;have GW146:=n2_;have GE146:=n3_;clear n0_ n1_ n2_ n3_;clear hb hbox hg)|((with_reducible refine gate_dst (N:=2) rfl ?_);refine box_event ?hg (N:=2) ?hd (cs:=#[.int .i64 0,.int .i64 0,.bool false]) (t:=70) ?hr ?_;(case hd=>rfl);(case hg=>rfl);(case hr=>first|(go_simp;done)|(go_simp;rfl));intro gb147 hg w3 hbox hb;have n0_:=Zz.mk (bB (g:=gb146) (o:=.cells #[.int .i64 a0_0,.int .i64 a0_1,.bool a0_2] 75 (0,0)) (by (with_reducible repeat first|apply bN|apply bD|apply bA);exact BK146.out) hb);have n1_:=Zz.mk (qP (by repeat (first|(with_reducible first|exact HB.out|apply qA|apply qN|apply q1_|refine qS ?_ GE146.out)|exact HB.out)) hb);have n2_:=Zz.mk (hbox);have n3_:=Zz.mk ((by rw [hg];exact (qZ (by repeat (first|(with_reducible first|exact HB.out|apply qA|apply qN|apply q1_|refine qS ?_ GE146.out)|exact HB.out))):w.heap.size≤gb147));have n4_:=Zz.mk ((by rw [hg];exact (qZ (by repeat (first|(with_reducible first|exact HB.out|apply qA|apply qN|apply q1_|refine qS ?_ GE146.out)|exact HB.out))):w.heap.size≤gb147));have n5_:=Zz.mk ((by rw [hg];exact Nat.ne_of_lt (blk_lt (g:=gb146) (o:=.cells #[.int .i64 a0_0,.int .i64 a0_1,.bool a0_2] 75 (0,0)) (by (with_reducible repeat first|apply bN|apply bD|apply bA);exact BK146.out)):gb146 ≠ gb147));have n6_:=Zz.mk ((by rw [hg];exact Nat.ne_of_gt (blk_lt (g:=gb146) (o:=.cells #[.int .i64 a0_0,.int .i64 a0_1,.bool a0_2] 75 (0,0)) (by (with_reducible repeat first|apply bN|apply bD|apply bA);exact BK146.out)):gb147 ≠ gb146));clear BK146;clear HB;have BK146:=n0_;have HB:=n1_;have BK147:=n2_;have GW147:=n3_;have GE147:=n4_;have NB146_147:=n5_;have NB147_146:=n6_;clear n0_ n1_ n2_ n3_ n4_ n5_ n6_;clear hb hbox hg)|((with_reducible refine gate_dst (N:=3) rfl ?_);refine box_event ?hg (N:=3) ?hd (cs:=#[.int .i64 0,.int .i64 0,.bool false]) (t:=70) ?hr ?_;(case hd=>rfl);(case hg=>rfl);(case hr=>first|(go_simp;done)|(go_simp;rfl));intro gb148 hg w4 hbox hb;have n0_:=Zz.mk (bB (g:=gb146) (o:=.cells #[.int .i64 a0_0,.int .i64 a0_1,.bool a0_2] 75 (0,0)) (by (with_reducible repeat first|apply bN|apply bD|apply bA);exact BK146.out) hb);have n1_:=Zz.mk (bB (g:=gb147) (o:=.cells #[.int .i64 0,.int .i64 0,.bool false] 70 (0,0)) (by (with_reducible repeat first|apply bN|apply bD|apply bA);exact BK147.out) hb);have n2_:=Zz.mk (qP (by repeat (first|(with_reducible first|exact HB.out|apply qA|apply qN|apply q1_|refine qS ?_ GE146.out|refine qS ?_ GE147.out)|exact HB.out)) hb);have n3_:=Zz.mk (hbox);have n4_:=Zz.mk ((by rw [hg];exact (qZ (by repeat (first|(with_reducible first|exact HB.out|apply qA|apply qN|apply q1_|refine qS ?_ GE146.out|refine qS ?_ GE147.out)|exact HB.out))):w.heap.size≤gb148));have n5_:=Zz.mk ((by rw [hg];exact (qZ (by repeat (first|(with_reducible first|exact HB.out|apply qA|apply qN|apply q1_|refine qS ?_ GE146.out|refine qS ?_ GE147.out)|exact HB.out))):w.heap.size≤gb148));have n6_:=Zz.mk ((by rw [hg];exact Nat.ne_of_lt (blk_lt (g:=gb146) (o:=.cells #[.int .i64 a0_0,.int .i64 a0_1,.bool a0_2] 75 (0,0)) (by (with_reducible repeat first|apply bN|apply bD|apply bA);exact BK146.out)):gb146 ≠ gb148));have n7_:=Zz.mk ((by rw [hg];exact Nat.ne_of_gt (blk_lt (g:=gb146) (o:=.cells #[.int .i64 a0_0,.int .i64 a0_1,.bool a0_2] 75 (0,0)) (by (with_reducible repeat first|apply bN|apply bD|apply bA);exact BK146.out)):gb148 ≠ gb146));have n8_:=Zz.mk ((by rw [hg];exact Nat.ne_of_lt (blk_lt (g:=gb147) (o:=.cells #[.int .i64 0,.int .i64 0,.bool false] 70 (0,0)) (by (with_reducible repeat first|apply bN|apply bD|apply bA);exact BK147.out)):gb147 ≠ gb148));have n9_:=Zz.mk ((by rw [hg];exact Nat.ne_of_gt (blk_lt (g:=gb147) (o:=.cells #[.int .i64 0,.int .i64 0,.bool false] 70 (0,0)) (by (with_reducible repeat first|apply bN|apply bD|apply bA);exact BK147.out)):gb148 ≠ gb147));clear BK146;clear BK147;clear HB;have BK146:=n0_;have BK147:=n1_;have HB:=n2_;have BK148:=n3_;have GW148:=n4_;have GE148:=n5_;have NB146_148:=n6_;have NB148_146:=n7_;have NB147_148:=n8_;have NB148_147:=n9_;clear n0_ n1_ n2_ n3_ n4_ n5_ n6_ n7_ n8_ n9_;clear hb hbox hg;have hnb5:=NB146_147.out;have hnc5:=NB147_146.out;have hnb6:=NB146_148.out;have hnc6:=NB148_146.out;have hcz7_0:w4.cell? ⟨gb146,0,none⟩=some (.int .i64 a0_0):=(bC BK146.out 0).trans rfl;have hcz7_1:w4.cell? ⟨gb146,1,none⟩=some (.int .i64 a0_1):=(bC BK146.out 1).trans rfl;have hcz7_2:w4.cell? ⟨gb146,2,none⟩=some (.bool a0_2):=(bC BK146.out 2).trans rfl;have hfz7_0:=bF BK146.out 0;have hfz7_1:=bF BK146.out 1;have hfz7_2:=bF BK146.out 2;have hnb8:=NB148_147.out;have hnc8:=NB147_148.out;have hcz9_0:w4.cell? ⟨gb148,0,none⟩=some (.int .i64 0):=(bC BK148.out 0).trans rfl;have hcz9_1:w4.cell? ⟨gb148,1,none⟩=some (.int .i64 0):=(bC BK148.out 1).trans rfl;have hcz9_2:w4.cell? ⟨gb148,2,none⟩=some (.bool false):=(bC BK148.out 2).trans rfl;have hfz9_0:=bF BK148.out 0;have hfz9_1:=bF BK148.out 1;have hfz9_2:=bF BK148.out 2;have hcz10_0:w4.cell? ⟨gb147,0,none⟩=some (.int .i64 0):=(bC BK147.out 0).trans rfl;have hcz10_1:w4.cell? ⟨gb147,1,none⟩=some (.int .i64 0):=(bC BK147.out 1).trans rfl;have hcz10_2:w4.cell? ⟨gb147,2,none⟩=some (.bool false):=(bC BK147.out 2).trans rfl;have hfz10_0:=bF BK147.out 0;have hfz10_1:=bF BK147.out 1;have hfz10_2:=bF BK147.out 2))
 refine bodyPost_ret (results_cell_row rfl _ _ gb147 70 #[.int .i64 a0_0,.int .i64 a0_1,.bool a0_2] (0,0) _ rfl (by (with_reducible repeat first|apply bN|apply bD|apply bA);refine blk_put (cs:=#[.int .i64 a0_0,.int .i64 a0_1,.bool false]) ?_ 2 _ rfl;(with_reducible repeat first|apply bN|apply bD|apply bA);refine blk_put (cs:=#[.int .i64 a0_0,.int .i64 0,.bool false]) ?_ 1 _ rfl;(with_reducible repeat first|apply bN|apply bD|apply bA);refine blk_put (cs:=#[.int .i64 0,.int .i64 0,.bool false]) ?_ 0 _ rfl;(with_reducible repeat first|apply bN|apply bD|apply bA);refine blk_far ?_ NB147_148.out _;(with_reducible repeat first|apply bN|apply bD|apply bA);refine blk_far ?_ NB147_148.out _;(with_reducible repeat first|apply bN|apply bD|apply bA);refine blk_far ?_ NB147_148.out _;(with_reducible repeat first|apply bN|apply bD|apply bA);exact BK147.out) Tryz.underlying70 rfl (by kernel_rfl)) rfl ?_
 exact ⟨by first|rfl|(simp [errW_none,errW_some] <;> rfl)|(simp [*,errW_none,errW_some] <;> rfl),by repeat (first|(with_reducible first|exact HB.out|apply qA|apply qN|apply q1_|refine qS ?_ GE146.out|refine qS ?_ GE147.out|refine qS ?_ GE148.out)|exact HB.out)⟩
def laws_toNodeS.l0:Nat→List (S75)→List (S70)→Int→Option ((List (S70)))
 | 0,_,_,_=>none
 | k+1,x0,x3,x4=>if x4<(x0.length:Int) then (if 0≤x4 then ((laws_toNode.f ((rd_T75 x0 x4).f0) ((rd_T75 x0 x4).f1) ((rd_T75 x0 x4).f2)).bind fun bt153=>(if x4<(x3.length:Int) then (laws_toNodeS.l0 k x0 (x3.set (x4:Int).toNat (⟨bt153.1,bt153.2.1,bt153.2.2⟩:S70)) (wrap64 (x4+1))) else (none))) else (none)) else (some x3)
def laws_toNodeS.f (k:Nat) (l0:List (S75)):Option ((List (S70))):=if 0≤(l0.length:Int) then (if ((l0.length:Int):Int).toNat≤11728124029610 then (laws_toNodeS.l0 k l0 (List.replicate ((l0.length:Int):Int).toNat z70) 0) else (none)) else (none)
set_option maxHeartbeats 8000000 in
set_option maxRecDepth 100000 in
theorem laws_toNodeS.calls (k:Nat) (A0:Option Addr) (c0:Nat) (l0:List (S75)) (r:List (S70)) (w:World) (hr0:Kd.C k75 w A0 l0.length l0) (hc0:l0.length≤c0) (h:laws_toNodeS.f k l0=some r) :
  Calls Tryz.prog 29 #[.slice A0 l0.length c0] w fun e w'=>∃ v0_:Value,e=.returned (v0_)∧Kd.R k70 70 w' w.heap.size (fun _=>True) v0_ r∧Below w.heap.size w w':=by
 have hu75:=Tryz.underlying75
 have hu70:=Tryz.underlying70
 have HR0:=Zz.mk hr0
 have HC0:=Zz.mk hc0
 clear hr0 hc0
 have HB:=Zz.mk (Below.refl w.heap.size w)
 have H:(if 0≤(l0.length:Int) then (if ((l0.length:Int):Int).toNat≤11728124029610 then (laws_toNodeS.l0 k l0 (List.replicate ((l0.length:Int):Int).toNat z70) 0) else (none)) else (none))=some r:=h
 clear h
 by_cases c2:0≤(l0.length:Int)
 ·rw [if_pos c2] at H
  have c2b0:=eq_true c2
  have c2b1:decide (0≤(l0.length:Int))=true:=decide_eq_true c2
  clear c2
  by_cases c3:((l0.length:Int):Int).toNat≤11728124029610
  ·rw [if_pos c3] at H
   have c3b0:=eq_true c3
   have c3b1:decide (((l0.length:Int):Int).toNat≤11728124029610)=true:=decide_eq_true c3
   clear c3
   obtain ⟨y149,hy149⟩:∃ y_:List (S70),y_=(List.replicate ((l0.length:Int):Int).toNat z70):=⟨_,rfl⟩
   replace H:(laws_toNodeS.l0 k l0 y149 0)=some r:=by first|(rw [hy149];with_reducible exact H)|(have H2_:=(Option.bind_some _ _).symm.trans H;rw [hy149];with_reducible exact H2_)|(have H2_:=(Option.bind_some _ _).symm.trans H;with_reducible exact H2_)|with_reducible exact H|(rw [hy149];exact H)|exact H
   have Ny149:=Zz.mk hy149
   clear hy149
   have H':=Zz.mk H
   clear H
   go_enter Tryz.func29,Tryz.ntmps29
   go_wp2_with (first|((with_reducible refine gate_dst (N:=7) rfl ?_);refine Kd.R_make k70 _ 70 rfl (N:=7) rfl 29 _ _ rfl (l0.length:Int) rfl rfl Tryz.underlying29 (.agg #[(.int .i64 0),(.int .i64 0),(.bool false)]) 24 info70 rfl (by decide) (by omega) z70 (ok:=fun _=>True) (okp:=fun _=>True) (k70_mkM _ _ _ z70 ) (fun _ hk=>hk) trivial (of_decide_eq_true (by first|(with_reducible assumption)|assumption)) (Nat.le_trans (Nat.mul_le_mul_right _ (of_decide_eq_true (by first|(with_reducible assumption)|assumption):(l0.length:Int).toNat≤11728124029610)) (by omega)) (Below.refl _ _) (Nat.le_refl _) ?_;intro v150 w4 ho5 hb hg_ hnew_;clear hg_ hnew_;(first|rw [← Ny149.out] at ho5|(simp only [Int.reduceToNat] at ho5;rw [← Ny149.out] at ho5));have n0_:=Zz.mk (Kd.R_lower ho5 (qZ (by repeat (first|(with_reducible first|exact HB.out|apply qA|apply qN|apply q1_)|exact HB.out))));have n1_:=Zz.mk (qP (by repeat (first|(with_reducible first|exact HB.out|apply qA|apply qN|apply q1_)|exact HB.out)) hb);clear HB;have HO151:=n0_;have HB:=n1_;clear n0_ n1_;clear hb ho5))
   go_loopg [4] k (fun kq v4 w'=>∃ (x3_1:List (S70)) (x4_1:Int),v4=.int .i64 x4_1∧Zz (laws_toNodeS.l0 kq l0 x3_1 x4_1=some r)∧Zz (kq≤k)∧Zz (Kd.R k70 70 w' w.heap.size (fun _=>True) v150 x3_1)∧Zz (Below w.heap.size w w'))
   case atStart=>exact ⟨(y149),(0),(by first|rfl|(simp;done)|(simp [*];done)),H',⟨Nat.le_refl _⟩,⟨by (with_reducible repeat first|apply Kd.R_alloc|apply Kd.R_drewN|apply Kd.R_drew);exact HO151.out⟩,⟨by repeat (first|(with_reducible first|exact HB.out|apply qA|apply qN|apply q1_)|exact HB.out)⟩⟩
   case round =>
    clear H'
    try clear c2
    try clear c2b0
    try clear c2b1
    try clear p2
    try clear c3
    try clear c3b0
    try clear c3b1
    obtain ⟨x3_1,x4_1,rfl,HA,HK1,HO_3,HB⟩:=hrel
    cases gk with
    | zero=>exact absurd HA.out (by simp [laws_toNodeS.l0])
    | succ k1 =>
     have H:=HA.out
     clear HA
     simp only [laws_toNodeS.l0] at H
     by_cases c6:x4_1<(l0.length:Int)
     ·rw [if_pos c6] at H
      have c6b0:decide (x4_1<(l0.length:Int))=true:=decide_eq_true c6
      clear c6
      by_cases c7:0≤x4_1
      ·rw [if_pos c7] at H
       have c7b0:decide (0≤x4_1)=true:=decide_eq_true c7
       clear c7
       replace H:=Option.bind_eq_some_iff.mp H
       obtain ⟨⟨t153,t154,t155⟩,A80,H⟩:=H
       replace H:(if x4_1<(x3_1.length:Int) then (laws_toNodeS.l0 k1 l0 (x3_1.set (x4_1:Int).toNat (⟨t153,t154,t155⟩:S70)) (wrap64 (x4_1+1))) else (none))=some r:=H
       have A8:=Zz.mk A80
       clear A80
       by_cases c9:x4_1<(x3_1.length:Int)
       ·rw [if_pos c9] at H
        have c9b0:decide (x4_1<(x3_1.length:Int))=true:=decide_eq_true c9
        clear c9
        obtain ⟨y156,hy156⟩:∃ y_:List (S70),y_=(x3_1.set (x4_1:Int).toNat (⟨t153,t154,t155⟩:S70)):=⟨_,rfl⟩
        replace H:(laws_toNodeS.l0 k1 l0 y156 (wrap64 (x4_1+1)))=some r:=by first|(rw [hy156];with_reducible exact H)|(have H2_:=(Option.bind_some _ _).symm.trans H;rw [hy156];with_reducible exact H2_)|(have H2_:=(Option.bind_some _ _).symm.trans H;with_reducible exact H2_)|with_reducible exact H|(rw [hy156];exact H)|exact H
        have Ny156:=Zz.mk hy156
        clear hy156
        have H':=Zz.mk H
        clear H
        have p152:0≤(x4_1:Int):=of_decide_eq_true (by first|(with_reducible assumption)|assumption)
        have q152:x4_1<(l0.length:Int):=of_decide_eq_true (by first|(with_reducible assumption)|assumption)
        obtain ⟨ad152,e152,hx152_0,hx152_1,hx152_2⟩:=at_T75 HR0.out x4_1 p152 q152
        cases e152
        replace hx152_0:=(HB.out.cell (World.block_lt_of_cell? w _ hx152_0)).trans hx152_0
        replace hx152_1:=(HB.out.cell (World.block_lt_of_cell? w _ hx152_1)).trans hx152_1
        replace hx152_2:=(HB.out.cell (World.block_lt_of_cell? w _ hx152_2)).trans hx152_2
        replace p152:=eq_true p152
        replace q152:=eq_true q152
        go_wp2_with (first|((with_reducible refine gate_callee (f:=44) rfl ?_);refine goesL_ (some 20) rfl rfl Tryz.func44 (by kernel_rfl) rfl #[.agg #[.int .i64 ((rd_T75 l0 x4_1).f0),.int .i64 ((rd_T75 l0 x4_1).f1),.bool ((rd_T75 l0 x4_1).f2)]] rfl (by (try simp only [List.map_toArray,List.map_cons,List.map_nil]);first|done|rfl|(simp only [List.length_drop,List.length_take];rfl)) ?_;(with_reducible refine (laws_toNode.calls ((rd_T75 l0 x4_1).f0) ((rd_T75 l0 x4_1).f1) ((rd_T75 l0 x4_1).f2) t153 t154 t155 _ A8.out).mono ?_);rintro e w11 ⟨rfl,hb⟩;refine ⟨_,rfl,?_⟩;have n0_:=Zz.mk (Kd.R_below (by (with_reducible repeat first|apply Kd.R_alloc|apply Kd.R_drewN|apply Kd.R_drew);exact HO_3.out) hb);have n1_:=Zz.mk (qP (by repeat (first|(with_reducible first|exact HB.out|apply qA|apply qN|apply q1_)|exact HB.out)) hb);clear HO_3;clear HB;have HO_3:=n0_;have HB:=n1_;clear n0_ n1_;(try clear hb);(try clear hb2);(try clear hk);(try clear hi);have p10:0≤(x4_1:Int):=of_decide_eq_true (by first|(with_reducible assumption)|assumption);have q10:(x4_1:Int)<((x3_1.length:Int):Int):=of_decide_eq_true (by first|(with_reducible assumption)|assumption);obtain ⟨go10,co10,eo10,gb10,gl10,cl10,HG10⟩:=Kd.R_form HO_3.out (by omega);(first|cases eo10|(injection eo10 with ea_ en_ ec_;(first|subst ea_|(injection ea_ with ea_;subst ea_));subst ec_;clear en_));have GB10:=Zz.mk gb10;have GG10:=Zz.mk HG10;clear gb10 gl10 HG10;obtain ⟨ce10,hcl10,hM10,hcc10,hfr10⟩:=Kd.R_elem HO_3.out z70 (x4_1:Int) p10 q10;obtain rfl:=k70_openM hM10;have hx10_0:w11.cell? ⟨go10,(x4_1:Int).toNat * 3,none⟩=some (.int .i64 ((rd_T70 x3_1 x4_1).f0)):=hcc10 0 _ rfl;have hx10_1:w11.cell? ⟨go10,(x4_1:Int).toNat * 3+1,none⟩=some (.int .i64 ((rd_T70 x3_1 x4_1).f1)):=hcc10 1 _ rfl;have hx10_2:w11.cell? ⟨go10,(x4_1:Int).toNat * 3+2,none⟩=some (.bool ((rd_T70 x3_1 x4_1).f2)):=hcc10 2 _ rfl;have hf10_0:w11.frozen? ⟨go10,(x4_1:Int).toNat * 3,none⟩=false:=hfr10 0;have hf10_1:w11.frozen? ⟨go10,(x4_1:Int).toNat * 3+1,none⟩=false:=hfr10 1;have hf10_2:w11.frozen? ⟨go10,(x4_1:Int).toNat * 3+2,none⟩=false:=hfr10 2;clear hcl10 hcc10 hfr10 hM10;replace p10:=eq_true p10;replace q10:=eq_true q10;have HX12:=Zz.mk (show Kd.R k70 70 w11 w.heap.size (fun _=>True) (.slice (some ⟨go10,0,none⟩) x3_1.length co10) x3_1 from (by (with_reducible repeat first|apply Kd.R_alloc|apply Kd.R_drewN|apply Kd.R_drew);exact HO_3.out));obtain ⟨ce12,hcl12,hM12,hcc12,hfr12⟩:=Kd.R_elem HX12.out z70 (x4_1:Int) (of_decide_eq_true (by first|(with_reducible assumption)|assumption)) (by have h_:(x4_1:Int)<((x3_1.length:Int):Int):=of_decide_eq_true (by first|(with_reducible assumption)|assumption);first|exact h_|(have e_:=(Kd.R_reads' HO_3.out).1;omega)|simpa using h_);obtain rfl:=k70_openM hM12;have HP12:=Kd.R_seg HX12.out (x4_1:Int) (of_decide_eq_true (by first|(with_reducible assumption)|assumption)) (by have h_:(x4_1:Int)<((x3_1.length:Int):Int):=of_decide_eq_true (by first|(with_reducible assumption)|assumption);first|exact h_|(have e_:=(Kd.R_reads' HO_3.out).1;omega)|simpa using h_) (seg:=[.int .i64 t153,.int .i64 t154,.bool t155]) (j:=0) hcl12 hcc12 (show 3≤3 from by decide) (x':=(⟨t153,t154,t155⟩:S70)) (k70_mkM _ _ _ (⟨t153,t154,t155⟩:S70) ) (fun _ hk=>hk);have hx12_0:=hcc12 0 _ rfl;(try simp only [show (k70).sz=3 from rfl,Nat.mul_one,Nat.add_zero] at hx12_0);have hf12_0:=hfr12 0;(try simp only [show (k70).sz=3 from rfl,Nat.mul_one,Nat.add_zero] at hf12_0);have hx12_1:=hcc12 1 _ rfl;(try simp only [show (k70).sz=3 from rfl,Nat.mul_one,Nat.add_zero] at hx12_1);have hf12_1:=hfr12 1;(try simp only [show (k70).sz=3 from rfl,Nat.mul_one,Nat.add_zero] at hf12_1);have hx12_2:=hcc12 2 _ rfl;(try simp only [show (k70).sz=3 from rfl,Nat.mul_one,Nat.add_zero] at hx12_2);have hf12_2:=hfr12 2;(try simp only [show (k70).sz=3 from rfl,Nat.mul_one,Nat.add_zero] at hf12_2);clear hcl12 hcc12 hfr12 hM12)|((with_reducible refine gate_store (t:=70) (p:=21) rfl ?_);refine store_event (t:=70) (p:=21) (v:=?vo_w13) (w1:=(((w11.setCell ⟨go10,(x4_1:Int).toNat * 3,none⟩ (.int .i64 t153)).setCell ⟨go10,(x4_1:Int).toNat * 3+1,none⟩ (.int .i64 t154)).setCell ⟨go10,(x4_1:Int).toNat * 3+2,none⟩ (.bool t155))) ?hg ?ho ?hn ?hr ?_;(case ho=>rfl);(case hg=>rfl);(case hn=>rfl);(case hr=>first|(go_simp;done)|(go_simp;rfl));intro w13 hw;have hg:w11.grownBy w13 (some go10):=(by rw [hw];exact HP12.2);have hp_:Kd.R k70 70 w13 w.heap.size (fun _=>True) (.slice (some ⟨go10,0,none⟩) x3_1.length co10) y156:=(by rw [hw,Ny156.out];exact HP12.1);clear HP12;have n0_:=Zz.mk (hp_);have n1_:=Zz.mk ((by rw [hw];exact qS (qS (qS (HB.out) GB10.out) GB10.out) GB10.out:Below w.heap.size w w13));clear HO_3;clear HB;have HO_3:=n0_;have HB:=n1_;clear n0_ n1_;clear hg hw hp_))
        go_roundg k1
        case measure=>have:=HK1.out;omega
        case rel=>exact ⟨(y156),(wrap64 (x4_1+1)),(by first|rfl|(simp;done)|(simp [*];done)),H',⟨by have:=HK1.out;omega⟩,⟨by (with_reducible repeat first|apply Kd.R_alloc|apply Kd.R_drewN|apply Kd.R_drew);exact HO_3.out⟩,⟨by repeat (first|(with_reducible first|exact HB.out|apply qA|apply qN|apply q1_)|exact HB.out)⟩⟩
       ·rw [if_neg c9] at H
        exact absurd H (by simp)
      ·rw [if_neg c7] at H
       exact absurd H (by simp)
     ·rw [if_neg c6] at H
      have c6b0:decide (x4_1<(l0.length:Int))=false:=decide_eq_false c6
      clear c6
      obtain rfl:=Option.some.inj H
      go_wp2
      go_ret
      exact ⟨_,by first|rfl|(simp [errW_none,errW_some] <;> rfl)|(simp [*,errW_none,errW_some] <;> rfl),by (with_reducible repeat first|apply Kd.R_alloc|apply Kd.R_drewN|apply Kd.R_drew);exact HO_3.out,by repeat (first|(with_reducible first|exact HB.out|apply qA|apply qN|apply q1_)|exact HB.out)⟩
  ·rw [if_neg c3] at H
   exact absurd H (by simp)
 ·rw [if_neg c2] at H
  exact absurd H (by simp)
def laws_toTrie.f (k:Nat) (l0_0:List (S75)):Option ((List (S70))):=(laws_toNodeS.f k l0_0).bind fun t160=>(some t160)
set_option maxHeartbeats 8000000 in
set_option maxRecDepth 100000 in
theorem laws_toTrie.calls (k:Nat) (A0_0:Option Addr) (c0_0:Nat) (l0_0:List (S75)) (r:List (S70)) (w:World) (hr0_0:Kd.C k75 w A0_0 l0_0.length l0_0) (hc0_0:l0_0.length≤c0_0) (h:laws_toTrie.f k l0_0=some r) :
  Calls Tryz.prog 8 #[.agg #[.slice A0_0 l0_0.length c0_0]] w fun e w'=>∃ v0_:Value,e=.returned (.agg #[v0_])∧Kd.R k70 70 w' w.heap.size (fun _=>True) v0_ r∧Below w.heap.size w w':=by
 have hu24:=Tryz.underlying24
 have hu31:=Tryz.underlying31
 have HR0_0:=Zz.mk hr0_0
 have HC0_0:=Zz.mk hc0_0
 clear hr0_0 hc0_0
 have HB:=Zz.mk (Below.refl w.heap.size w)
 have H:((laws_toNodeS.f k l0_0).bind fun t160=>(some t160))=some r:=h
 clear h
 replace H:=Option.bind_eq_some_iff.mp H
 obtain ⟨t160,A20,H⟩:=H
 replace H:(some t160)=some r:=H
 have A2:=Zz.mk A20
 clear A20
 obtain rfl:=Option.some.inj H
 go_enter Tryz.func8,Tryz.ntmps8
 go_wp2_with (first|((with_reducible refine gate_dst (N:=1) rfl ?_);refine box_event ?hg (N:=1) ?hd (cs:=#[.slice A0_0 l0_0.length c0_0]) (t:=24) ?hr ?_;(case hd=>rfl);(case hg=>rfl);(case hr=>first|(go_simp;done)|(go_simp;rfl));intro gb157 hg w3 hbox hb;have n0_:=Zz.mk (qP (by repeat (first|(with_reducible first|exact HB.out|apply qA|apply qN|apply q1_)|exact HB.out)) hb);have n1_:=Zz.mk (hbox);have n2_:=Zz.mk ((by rw [hg];exact (qZ (by repeat (first|(with_reducible first|exact HB.out|apply qA|apply qN|apply q1_)|exact HB.out))):w.heap.size≤gb157));have n3_:=Zz.mk ((by rw [hg];exact (qZ (by repeat (first|(with_reducible first|exact HB.out|apply qA|apply qN|apply q1_)|exact HB.out))):w.heap.size≤gb157));clear HB;have HB:=n0_;have BK157:=n1_;have GW157:=n2_;have GE157:=n3_;clear n0_ n1_ n2_ n3_;clear hb hbox hg)|((with_reducible refine gate_dst (N:=2) rfl ?_);refine box_event ?hg (N:=2) ?hd (cs:=#[.slice none 0 0]) (t:=31) ?hr ?_;(case hd=>rfl);(case hg=>rfl);(case hr=>first|(go_simp;done)|(go_simp;rfl));intro gb158 hg w4 hbox hb;have n0_:=Zz.mk (bB (g:=gb157) (o:=.cells #[.slice A0_0 l0_0.length c0_0] 24 (0,0)) (by (with_reducible repeat first|apply bN|apply bD|apply bA);exact BK157.out) hb);have n1_:=Zz.mk (qP (by repeat (first|(with_reducible first|exact HB.out|apply qA|apply qN|apply q1_|refine qS ?_ GE157.out)|exact HB.out)) hb);have n2_:=Zz.mk (hbox);have n3_:=Zz.mk ((by rw [hg];exact (qZ (by repeat (first|(with_reducible first|exact HB.out|apply qA|apply qN|apply q1_|refine qS ?_ GE157.out)|exact HB.out))):w.heap.size≤gb158));have n4_:=Zz.mk ((by rw [hg];exact (qZ (by repeat (first|(with_reducible first|exact HB.out|apply qA|apply qN|apply q1_|refine qS ?_ GE157.out)|exact HB.out))):w.heap.size≤gb158));have n5_:=Zz.mk ((by rw [hg];exact Nat.ne_of_lt (blk_lt (g:=gb157) (o:=.cells #[.slice A0_0 l0_0.length c0_0] 24 (0,0)) (by (with_reducible repeat first|apply bN|apply bD|apply bA);exact BK157.out)):gb157 ≠ gb158));have n6_:=Zz.mk ((by rw [hg];exact Nat.ne_of_gt (blk_lt (g:=gb157) (o:=.cells #[.slice A0_0 l0_0.length c0_0] 24 (0,0)) (by (with_reducible repeat first|apply bN|apply bD|apply bA);exact BK157.out)):gb158 ≠ gb157));clear BK157;clear HB;have BK157:=n0_;have HB:=n1_;have BK158:=n2_;have GW158:=n3_;have GE158:=n4_;have NB157_158:=n5_;have NB158_157:=n6_;clear n0_ n1_ n2_ n3_ n4_ n5_ n6_;clear hb hbox hg)|((with_reducible refine gate_dst (N:=3) rfl ?_);refine box_event ?hg (N:=3) ?hd (cs:=#[.slice none 0 0]) (t:=31) ?hr ?_;(case hd=>rfl);(case hg=>rfl);(case hr=>first|(go_simp;done)|(go_simp;rfl));intro gb159 hg w5 hbox hb;have n0_:=Zz.mk (bB (g:=gb157) (o:=.cells #[.slice A0_0 l0_0.length c0_0] 24 (0,0)) (by (with_reducible repeat first|apply bN|apply bD|apply bA);exact BK157.out) hb);have n1_:=Zz.mk (bB (g:=gb158) (o:=.cells #[.slice none 0 0] 31 (0,0)) (by (with_reducible repeat first|apply bN|apply bD|apply bA);exact BK158.out) hb);have n2_:=Zz.mk (qP (by repeat (first|(with_reducible first|exact HB.out|apply qA|apply qN|apply q1_|refine qS ?_ GE157.out|refine qS ?_ GE158.out)|exact HB.out)) hb);have n3_:=Zz.mk (hbox);have n4_:=Zz.mk ((by rw [hg];exact (qZ (by repeat (first|(with_reducible first|exact HB.out|apply qA|apply qN|apply q1_|refine qS ?_ GE157.out|refine qS ?_ GE158.out)|exact HB.out))):w.heap.size≤gb159));have n5_:=Zz.mk ((by rw [hg];exact (qZ (by repeat (first|(with_reducible first|exact HB.out|apply qA|apply qN|apply q1_|refine qS ?_ GE157.out|refine qS ?_ GE158.out)|exact HB.out))):w.heap.size≤gb159));have n6_:=Zz.mk ((by rw [hg];exact Nat.ne_of_lt (blk_lt (g:=gb157) (o:=.cells #[.slice A0_0 l0_0.length c0_0] 24 (0,0)) (by (with_reducible repeat first|apply bN|apply bD|apply bA);exact BK157.out)):gb157 ≠ gb159));have n7_:=Zz.mk ((by rw [hg];exact Nat.ne_of_gt (blk_lt (g:=gb157) (o:=.cells #[.slice A0_0 l0_0.length c0_0] 24 (0,0)) (by (with_reducible repeat first|apply bN|apply bD|apply bA);exact BK157.out)):gb159 ≠ gb157));have n8_:=Zz.mk ((by rw [hg];exact Nat.ne_of_lt (blk_lt (g:=gb158) (o:=.cells #[.slice none 0 0] 31 (0,0)) (by (with_reducible repeat first|apply bN|apply bD|apply bA);exact BK158.out)):gb158 ≠ gb159));have n9_:=Zz.mk ((by rw [hg];exact Nat.ne_of_gt (blk_lt (g:=gb158) (o:=.cells #[.slice none 0 0] 31 (0,0)) (by (with_reducible repeat first|apply bN|apply bD|apply bA);exact BK158.out)):gb159 ≠ gb158));clear BK157;clear BK158;clear HB;have BK157:=n0_;have BK158:=n1_;have HB:=n2_;have BK159:=n3_;have GW159:=n4_;have GE159:=n5_;have NB157_159:=n6_;have NB159_157:=n7_;have NB158_159:=n8_;have NB159_158:=n9_;clear n0_ n1_ n2_ n3_ n4_ n5_ n6_ n7_ n8_ n9_;clear hb hbox hg;have hnb6:=NB157_158.out;have hnc6:=NB158_157.out;have hnb7:=NB157_159.out;have hnc7:=NB159_157.out;have hcz8_0:w5.cell? ⟨gb157,0,none⟩=some (.slice A0_0 l0_0.length c0_0):=(bC BK157.out 0).trans rfl;have hfz8_0:=bF BK157.out 0)|((with_reducible refine gate_callee (f:=29) rfl ?_);refine goesL_ (some 6) rfl rfl Tryz.func29 (by kernel_rfl) rfl #[.slice A0_0 l0_0.length c0_0] rfl (by (try simp only [List.map_toArray,List.map_cons,List.map_nil]);first|done|rfl|(simp only [List.length_drop,List.length_take];rfl)) ?_;(with_reducible refine (laws_toNodeS.calls k _ _ l0_0 t160 _ ?side1 ?side2 A2.out).mono ?_);(case side1=>repeat (first|exact (Kd.C_below HR0_0.out HB.out)|(with_reducible refine Kd.C_alloc ?_ _)|(with_reducible refine Kd.C_drewN ?_ _)|(with_reducible refine Kd.C_drew ?_)));(case side2=>exact HC0_0.out);rintro e w9 ⟨v161,rfl,ho0,hb⟩;refine ⟨_,rfl,?_⟩;have n0_:=Zz.mk (Kd.R_lower ho0 (qZ (by repeat (first|(with_reducible first|exact HB.out|apply qA|apply qN|apply q1_|refine qS ?_ GE157.out|refine qS ?_ GE158.out|refine qS ?_ GE159.out)|exact HB.out))));have n1_:=Zz.mk (bB (g:=gb157) (o:=.cells #[.slice A0_0 l0_0.length c0_0] 24 (0,0)) (by (with_reducible repeat first|apply bN|apply bD|apply bA);exact BK157.out) hb);have n2_:=Zz.mk (bB (g:=gb158) (o:=.cells #[.slice none 0 0] 31 (0,0)) (by (with_reducible repeat first|apply bN|apply bD|apply bA);exact BK158.out) hb);have n3_:=Zz.mk (bB (g:=gb159) (o:=.cells #[.slice none 0 0] 31 (0,0)) (by (with_reducible repeat first|apply bN|apply bD|apply bA);exact BK159.out) hb);have n4_:=Zz.mk (qP (by repeat (first|(with_reducible first|exact HB.out|apply qA|apply qN|apply q1_|refine qS ?_ GE157.out|refine qS ?_ GE158.out|refine qS ?_ GE159.out)|exact HB.out)) hb);clear BK157;clear BK158;clear BK159;clear HB;have HO162:=n0_;have BK157:=n1_;have BK158:=n2_;have BK159:=n3_;have HB:=n4_;clear n0_ n1_ n2_ n3_ n4_;(try clear hb);(try clear hb2);(try clear hk);(try clear hi);(try clear ho0);obtain ⟨Ao10,co10,eo10⟩:=Kd.R_slice HO162.out;subst eo10;have hnb11:=NB159_158.out;have hnc11:=NB158_159.out;have hcz12_0:w9.cell? ⟨gb159,0,none⟩=some (.slice none 0 0):=(bC BK159.out 0).trans rfl;have hfz12_0:=bF BK159.out 0;have hcz13_0:w9.cell? ⟨gb158,0,none⟩=some (.slice none 0 0):=(bC BK158.out 0).trans rfl;have hfz13_0:=bF BK158.out 0))
 refine bodyPost_ret (results_cell_row rfl _ _ gb158 31 #[.slice Ao10 t160.length co10] (0,0) _ rfl (by (with_reducible repeat first|apply bN|apply bD|apply bA);refine blk_put (cs:=#[.slice none 0 0]) ?_ 0 _ rfl;(with_reducible repeat first|apply bN|apply bD|apply bA);refine blk_far ?_ NB158_159.out _;(with_reducible repeat first|apply bN|apply bD|apply bA);exact BK158.out) Tryz.underlying31 rfl (by kernel_rfl)) rfl ?_
 exact ⟨_,by first|rfl|(simp [errW_none,errW_some] <;> rfl)|(simp [*,errW_none,errW_some] <;> rfl),by (with_reducible repeat first|apply Kd.R_alloc|apply Kd.R_drewN|apply Kd.R_drew);exact Kd.R_mono (R_same_ (Kd.R_far (p:=⟨gb158,0,none⟩) (Kd.R_far (p:=⟨gb159,0,none⟩) (Kd.R_types (Kd.R_types HO162.out BK159.out (by decide)) BK158.out (by decide)) (fun _ hk=>hk.1.2) (.slice Ao10 t160.length co10)) (fun _ hk=>hk.2) (.slice Ao10 t160.length co10)) rfl) (fun _ hk=>trivial),by repeat (first|(with_reducible first|exact HB.out|apply qA|apply qN|apply q1_|refine qS ?_ GE157.out|refine qS ?_ GE158.out|refine qS ?_ GE159.out)|exact HB.out)⟩
def laws_eqNode.f (a0_0:Int) (a0_1:Int) (a0_2:Bool) (a1_0:Int) (a1_1:Int) (a1_2:Bool):Option (Bool):=if a0_0=a1_0 then (if a0_1=a1_1 then (if (a0_2 != a1_2)=true then (some false) else (some true)) else (some false)) else (some false)
set_option maxHeartbeats 8000000 in
set_option maxRecDepth 100000 in
theorem laws_eqNode.calls (a0_0:Int) (a0_1:Int) (a0_2:Bool) (a1_0:Int) (a1_1:Int) (a1_2:Bool) (r:Bool) (w:World) (h:laws_eqNode.f a0_0 a0_1 a0_2 a1_0 a1_1 a1_2=some r) :
  Calls Tryz.prog 50 #[.agg #[.int .i64 a0_0,.int .i64 a0_1,.bool a0_2],.agg #[.int .i64 a1_0,.int .i64 a1_1,.bool a1_2]] w fun e w'=>e=.returned (.bool r)∧Below w.heap.size w w':=by
 have hu70:=Tryz.underlying70
 have HB:=Zz.mk (Below.refl w.heap.size w)
 have H:(if a0_0=a1_0 then (if a0_1=a1_1 then (if (a0_2 != a1_2)=true then (some false) else (some true)) else (some false)) else (some false))=some r:=h
 clear h
 by_cases c3:a0_0=a1_0
 ·rw [if_pos c3] at H
  have c3b0:(a0_0 == a1_0)=true:=beq_iff_eq.mpr c3
  have c3b1:(a0_0 != a1_0)=false:=bne_eq_false_iff_eq.mpr c3
  clear c3
  by_cases c4:a0_1=a1_1
  ·rw [if_pos c4] at H
   have c4b0:(a0_1 == a1_1)=true:=beq_iff_eq.mpr c4
   have c4b1:(a0_1 != a1_1)=false:=bne_eq_false_iff_eq.mpr c4
   clear c4
   by_cases c5:(a0_2 != a1_2)=true
   ·rw [if_pos c5] at H
    have c5b0:(a0_2 != a1_2)=true:=c5
    (try (have c5b1:decide (a0_2=a1_2)=false:=by simpa using c5))
    (try (have c5b2:(a0_2 == a1_2)=false:=by simpa using c5))
    (try (have c5b3:¬ (a0_2=a1_2):=by simpa using c5))
    clear c5
    obtain rfl:=Option.some.inj H
    go_enter Tryz.func50,Tryz.ntmps50
    go_wp2_with (first|((with_reducible refine gate_dst (N:=2) rfl ?_);refine box_event ?hg (N:=2) ?hd (cs:=#[.int .i64 a0_0,.int .i64 a0_1,.bool a0_2]) (t:=70) ?hr ?_;(case hd=>rfl);(case hg=>rfl);(case hr=>first|(go_simp;done)|(go_simp;rfl));intro gb163 hg w6 hbox hb;have n0_:=Zz.mk (qP (by repeat (first|(with_reducible first|exact HB.out|apply qA|apply qN|apply q1_)|exact HB.out)) hb);have n1_:=Zz.mk (hbox);have n2_:=Zz.mk ((by rw [hg];exact (qZ (by repeat (first|(with_reducible first|exact HB.out|apply qA|apply qN|apply q1_)|exact HB.out))):w.heap.size≤gb163));have n3_:=Zz.mk ((by rw [hg];exact (qZ (by repeat (first|(with_reducible first|exact HB.out|apply qA|apply qN|apply q1_)|exact HB.out))):w.heap.size≤gb163));clear HB;have HB:=n0_;have BK163:=n1_;have GW163:=n2_;have GE163:=n3_;clear n0_ n1_ n2_ n3_;clear hb hbox hg)|((with_reducible refine gate_dst (N:=3) rfl ?_);refine box_event ?hg (N:=3) ?hd (cs:=#[.int .i64 a1_0,.int .i64 a1_1,.bool a1_2]) (t:=70) ?hr ?_;(case hd=>rfl);(case hg=>rfl);(case hr=>first|(go_simp;done)|(go_simp;rfl));intro gb164 hg w7 hbox hb;have n0_:=Zz.mk (bB (g:=gb163) (o:=.cells #[.int .i64 a0_0,.int .i64 a0_1,.bool a0_2] 70 (0,0)) (by (with_reducible repeat first|apply bN|apply bD|apply bA);exact BK163.out) hb);have n1_:=Zz.mk (qP (by repeat (first|(with_reducible first|exact HB.out|apply qA|apply qN|apply q1_|refine qS ?_ GE163.out)|exact HB.out)) hb);have n2_:=Zz.mk (hbox);have n3_:=Zz.mk ((by rw [hg];exact (qZ (by repeat (first|(with_reducible first|exact HB.out|apply qA|apply qN|apply q1_|refine qS ?_ GE163.out)|exact HB.out))):w.heap.size≤gb164));have n4_:=Zz.mk ((by rw [hg];exact (qZ (by repeat (first|(with_reducible first|exact HB.out|apply qA|apply qN|apply q1_|refine qS ?_ GE163.out)|exact HB.out))):w.heap.size≤gb164));have n5_:=Zz.mk ((by rw [hg];exact Nat.ne_of_lt (blk_lt (g:=gb163) (o:=.cells #[.int .i64 a0_0,.int .i64 a0_1,.bool a0_2] 70 (0,0)) (by (with_reducible repeat first|apply bN|apply bD|apply bA);exact BK163.out)):gb163 ≠ gb164));have n6_:=Zz.mk ((by rw [hg];exact Nat.ne_of_gt (blk_lt (g:=gb163) (o:=.cells #[.int .i64 a0_0,.int .i64 a0_1,.bool a0_2] 70 (0,0)) (by (with_reducible repeat first|apply bN|apply bD|apply bA);exact BK163.out)):gb164 ≠ gb163));clear BK163;clear HB;have BK163:=n0_;have HB:=n1_;have BK164:=n2_;have GW164:=n3_;have GE164:=n4_;have NB163_164:=n5_;have NB164_163:=n6_;clear n0_ n1_ n2_ n3_ n4_ n5_ n6_;clear hb hbox hg;have hnb8:=NB163_164.out;have hnc8:=NB164_163.out;have hcz9_0:w7.cell? ⟨gb163,0,none⟩=some (.int .i64 a0_0):=(bC BK163.out 0).trans rfl;have hcz9_1:w7.cell? ⟨gb163,1,none⟩=some (.int .i64 a0_1):=(bC BK163.out 1).trans rfl;have hcz9_2:w7.cell? ⟨gb163,2,none⟩=some (.bool a0_2):=(bC BK163.out 2).trans rfl;have hfz9_0:=bF BK163.out 0;have hfz9_1:=bF BK163.out 1;have hfz9_2:=bF BK163.out 2;have hcz10_0:w7.cell? ⟨gb164,0,none⟩=some (.int .i64 a1_0):=(bC BK164.out 0).trans rfl;have hcz10_1:w7.cell? ⟨gb164,1,none⟩=some (.int .i64 a1_1):=(bC BK164.out 1).trans rfl;have hcz10_2:w7.cell? ⟨gb164,2,none⟩=some (.bool a1_2):=(bC BK164.out 2).trans rfl;have hfz10_0:=bF BK164.out 0;have hfz10_1:=bF BK164.out 1;have hfz10_2:=bF BK164.out 2))
    go_ret
    exact ⟨by first|rfl|(simp [errW_none,errW_some] <;> rfl)|(simp [*,errW_none,errW_some] <;> rfl),by repeat (first|(with_reducible first|exact HB.out|apply qA|apply qN|apply q1_|refine qS ?_ GE163.out|refine qS ?_ GE164.out)|exact HB.out)⟩
   ·rw [if_neg c5] at H
    have c5b0:(a0_2 != a1_2)=false:=by simpa using c5
    (try (have c5b1:decide (a0_2=a1_2)=true:=by simpa using c5))
    (try (have c5b2:(a0_2 == a1_2)=true:=by simpa using c5))
    clear c5
    obtain rfl:=Option.some.inj H
    go_enter Tryz.func50,Tryz.ntmps50
    go_wp2_with (first|((with_reducible refine gate_dst (N:=2) rfl ?_);refine box_event ?hg (N:=2) ?hd (cs:=#[.int .i64 a0_0,.int .i64 a0_1,.bool a0_2]) (t:=70) ?hr ?_;(case hd=>rfl);(case hg=>rfl);(case hr=>first|(go_simp;done)|(go_simp;rfl));intro gb163 hg w11 hbox hb;have n0_:=Zz.mk (qP (by repeat (first|(with_reducible first|exact HB.out|apply qA|apply qN|apply q1_)|exact HB.out)) hb);have n1_:=Zz.mk (hbox);have n2_:=Zz.mk ((by rw [hg];exact (qZ (by repeat (first|(with_reducible first|exact HB.out|apply qA|apply qN|apply q1_)|exact HB.out))):w.heap.size≤gb163));have n3_:=Zz.mk ((by rw [hg];exact (qZ (by repeat (first|(with_reducible first|exact HB.out|apply qA|apply qN|apply q1_)|exact HB.out))):w.heap.size≤gb163));clear HB;have HB:=n0_;have BK163:=n1_;have GW163:=n2_;have GE163:=n3_;clear n0_ n1_ n2_ n3_;clear hb hbox hg)|((with_reducible refine gate_dst (N:=3) rfl ?_);refine box_event ?hg (N:=3) ?hd (cs:=#[.int .i64 a1_0,.int .i64 a1_1,.bool a1_2]) (t:=70) ?hr ?_;(case hd=>rfl);(case hg=>rfl);(case hr=>first|(go_simp;done)|(go_simp;rfl));intro gb164 hg w12 hbox hb;have n0_:=Zz.mk (bB (g:=gb163) (o:=.cells #[.int .i64 a0_0,.int .i64 a0_1,.bool a0_2] 70 (0,0)) (by (with_reducible repeat first|apply bN|apply bD|apply bA);exact BK163.out) hb);have n1_:=Zz.mk (qP (by repeat (first|(with_reducible first|exact HB.out|apply qA|apply qN|apply q1_|refine qS ?_ GE163.out)|exact HB.out)) hb);have n2_:=Zz.mk (hbox);have n3_:=Zz.mk ((by rw [hg];exact (qZ (by repeat (first|(with_reducible first|exact HB.out|apply qA|apply qN|apply q1_|refine qS ?_ GE163.out)|exact HB.out))):w.heap.size≤gb164));have n4_:=Zz.mk ((by rw [hg];exact (qZ (by repeat (first|(with_reducible first|exact HB.out|apply qA|apply qN|apply q1_|refine qS ?_ GE163.out)|exact HB.out))):w.heap.size≤gb164));have n5_:=Zz.mk ((by rw [hg];exact Nat.ne_of_lt (blk_lt (g:=gb163) (o:=.cells #[.int .i64 a0_0,.int .i64 a0_1,.bool a0_2] 70 (0,0)) (by (with_reducible repeat first|apply bN|apply bD|apply bA);exact BK163.out)):gb163 ≠ gb164));have n6_:=Zz.mk ((by rw [hg];exact Nat.ne_of_gt (blk_lt (g:=gb163) (o:=.cells #[.int .i64 a0_0,.int .i64 a0_1,.bool a0_2] 70 (0,0)) (by (with_reducible repeat first|apply bN|apply bD|apply bA);exact BK163.out)):gb164 ≠ gb163));clear BK163;clear HB;have BK163:=n0_;have HB:=n1_;have BK164:=n2_;have GW164:=n3_;have GE164:=n4_;have NB163_164:=n5_;have NB164_163:=n6_;clear n0_ n1_ n2_ n3_ n4_ n5_ n6_;clear hb hbox hg;have hnb13:=NB163_164.out;have hnc13:=NB164_163.out;have hcz14_0:w12.cell? ⟨gb163,0,none⟩=some (.int .i64 a0_0):=(bC BK163.out 0).trans rfl;have hcz14_1:w12.cell? ⟨gb163,1,none⟩=some (.int .i64 a0_1):=(bC BK163.out 1).trans rfl;have hcz14_2:w12.cell? ⟨gb163,2,none⟩=some (.bool a0_2):=(bC BK163.out 2).trans rfl;have hfz14_0:=bF BK163.out 0;have hfz14_1:=bF BK163.out 1;have hfz14_2:=bF BK163.out 2;have hcz15_0:w12.cell? ⟨gb164,0,none⟩=some (.int .i64 a1_0):=(bC BK164.out 0).trans rfl;have hcz15_1:w12.cell? ⟨gb164,1,none⟩=some (.int .i64 a1_1):=(bC BK164.out 1).trans rfl;have hcz15_2:w12.cell? ⟨gb164,2,none⟩=some (.bool a1_2):=(bC BK164.out 2).trans rfl;have hfz15_0:=bF BK164.out 0;have hfz15_1:=bF BK164.out 1;have hfz15_2:=bF BK164.out 2))
    go_ret
    exact ⟨by first|rfl|(simp [errW_none,errW_some] <;> rfl)|(simp [*,errW_none,errW_some] <;> rfl),by repeat (first|(with_reducible first|exact HB.out|apply qA|apply qN|apply q1_|refine qS ?_ GE163.out|refine qS ?_ GE164.out)|exact HB.out)⟩
  ·rw [if_neg c4] at H
   have c4b0:(a0_1 == a1_1)=false:=beq_eq_false_iff_ne.mpr c4
   have c4b1:(a0_1 != a1_1)=true:=bne_iff_ne.mpr c4
   obtain rfl:=Option.some.inj H
   go_enter Tryz.func50,Tryz.ntmps50
   go_wp2_with (first|((with_reducible refine gate_dst (N:=2) rfl ?_);refine box_event ?hg (N:=2) ?hd (cs:=#[.int .i64 a0_0,.int .i64 a0_1,.bool a0_2]) (t:=70) ?hr ?_;(case hd=>rfl);(case hg=>rfl);(case hr=>first|(go_simp;done)|(go_simp;rfl));intro gb163 hg w16 hbox hb;have n0_:=Zz.mk (qP (by repeat (first|(with_reducible first|exact HB.out|apply qA|apply qN|apply q1_)|exact HB.out)) hb);have n1_:=Zz.mk (hbox);have n2_:=Zz.mk ((by rw [hg];exact (qZ (by repeat (first|(with_reducible first|exact HB.out|apply qA|apply qN|apply q1_)|exact HB.out))):w.heap.size≤gb163));have n3_:=Zz.mk ((by rw [hg];exact (qZ (by repeat (first|(with_reducible first|exact HB.out|apply qA|apply qN|apply q1_)|exact HB.out))):w.heap.size≤gb163));clear HB;have HB:=n0_;have BK163:=n1_;have GW163:=n2_;have GE163:=n3_;clear n0_ n1_ n2_ n3_;clear hb hbox hg)|((with_reducible refine gate_dst (N:=3) rfl ?_);refine box_event ?hg (N:=3) ?hd (cs:=#[.int .i64 a1_0,.int .i64 a1_1,.bool a1_2]) (t:=70) ?hr ?_;(case hd=>rfl);(case hg=>rfl);(case hr=>first|(go_simp;done)|(go_simp;rfl));intro gb164 hg w17 hbox hb;have n0_:=Zz.mk (bB (g:=gb163) (o:=.cells #[.int .i64 a0_0,.int .i64 a0_1,.bool a0_2] 70 (0,0)) (by (with_reducible repeat first|apply bN|apply bD|apply bA);exact BK163.out) hb);have n1_:=Zz.mk (qP (by repeat (first|(with_reducible first|exact HB.out|apply qA|apply qN|apply q1_|refine qS ?_ GE163.out)|exact HB.out)) hb);have n2_:=Zz.mk (hbox);have n3_:=Zz.mk ((by rw [hg];exact (qZ (by repeat (first|(with_reducible first|exact HB.out|apply qA|apply qN|apply q1_|refine qS ?_ GE163.out)|exact HB.out))):w.heap.size≤gb164));have n4_:=Zz.mk ((by rw [hg];exact (qZ (by repeat (first|(with_reducible first|exact HB.out|apply qA|apply qN|apply q1_|refine qS ?_ GE163.out)|exact HB.out))):w.heap.size≤gb164));have n5_:=Zz.mk ((by rw [hg];exact Nat.ne_of_lt (blk_lt (g:=gb163) (o:=.cells #[.int .i64 a0_0,.int .i64 a0_1,.bool a0_2] 70 (0,0)) (by (with_reducible repeat first|apply bN|apply bD|apply bA);exact BK163.out)):gb163 ≠ gb164));have n6_:=Zz.mk ((by rw [hg];exact Nat.ne_of_gt (blk_lt (g:=gb163) (o:=.cells #[.int .i64 a0_0,.int .i64 a0_1,.bool a0_2] 70 (0,0)) (by (with_reducible repeat first|apply bN|apply bD|apply bA);exact BK163.out)):gb164 ≠ gb163));clear BK163;clear HB;have BK163:=n0_;have HB:=n1_;have BK164:=n2_;have GW164:=n3_;have GE164:=n4_;have NB163_164:=n5_;have NB164_163:=n6_;clear n0_ n1_ n2_ n3_ n4_ n5_ n6_;clear hb hbox hg;have hnb18:=NB163_164.out;have hnc18:=NB164_163.out;have hcz19_0:w17.cell? ⟨gb163,0,none⟩=some (.int .i64 a0_0):=(bC BK163.out 0).trans rfl;have hcz19_1:w17.cell? ⟨gb163,1,none⟩=some (.int .i64 a0_1):=(bC BK163.out 1).trans rfl;have hcz19_2:w17.cell? ⟨gb163,2,none⟩=some (.bool a0_2):=(bC BK163.out 2).trans rfl;have hfz19_0:=bF BK163.out 0;have hfz19_1:=bF BK163.out 1;have hfz19_2:=bF BK163.out 2;have hcz20_0:w17.cell? ⟨gb164,0,none⟩=some (.int .i64 a1_0):=(bC BK164.out 0).trans rfl;have hcz20_1:w17.cell? ⟨gb164,1,none⟩=some (.int .i64 a1_1):=(bC BK164.out 1).trans rfl;have hcz20_2:w17.cell? ⟨gb164,2,none⟩=some (.bool a1_2):=(bC BK164.out 2).trans rfl;have hfz20_0:=bF BK164.out 0;have hfz20_1:=bF BK164.out 1;have hfz20_2:=bF BK164.out 2))
   go_ret
   exact ⟨by first|rfl|(simp [errW_none,errW_some] <;> rfl)|(simp [*,errW_none,errW_some] <;> rfl),by repeat (first|(with_reducible first|exact HB.out|apply qA|apply qN|apply q1_|refine qS ?_ GE163.out|refine qS ?_ GE164.out)|exact HB.out)⟩
 ·rw [if_neg c3] at H
  have c3b0:(a0_0 == a1_0)=false:=beq_eq_false_iff_ne.mpr c3
  have c3b1:(a0_0 != a1_0)=true:=bne_iff_ne.mpr c3
  obtain rfl:=Option.some.inj H
  go_enter Tryz.func50,Tryz.ntmps50
  go_wp2_with (first|((with_reducible refine gate_dst (N:=2) rfl ?_);refine box_event ?hg (N:=2) ?hd (cs:=#[.int .i64 a0_0,.int .i64 a0_1,.bool a0_2]) (t:=70) ?hr ?_;(case hd=>rfl);(case hg=>rfl);(case hr=>first|(go_simp;done)|(go_simp;rfl));intro gb163 hg w21 hbox hb;have n0_:=Zz.mk (qP (by repeat (first|(with_reducible first|exact HB.out|apply qA|apply qN|apply q1_)|exact HB.out)) hb);have n1_:=Zz.mk (hbox);have n2_:=Zz.mk ((by rw [hg];exact (qZ (by repeat (first|(with_reducible first|exact HB.out|apply qA|apply qN|apply q1_)|exact HB.out))):w.heap.size≤gb163));have n3_:=Zz.mk ((by rw [hg];exact (qZ (by repeat (first|(with_reducible first|exact HB.out|apply qA|apply qN|apply q1_)|exact HB.out))):w.heap.size≤gb163));clear HB;have HB:=n0_;have BK163:=n1_;have GW163:=n2_;have GE163:=n3_;clear n0_ n1_ n2_ n3_;clear hb hbox hg)|((with_reducible refine gate_dst (N:=3) rfl ?_);refine box_event ?hg (N:=3) ?hd (cs:=#[.int .i64 a1_0,.int .i64 a1_1,.bool a1_2]) (t:=70) ?hr ?_;(case hd=>rfl);(case hg=>rfl);(case hr=>first|(go_simp;done)|(go_simp;rfl));intro gb164 hg w22 hbox hb;have n0_:=Zz.mk (bB (g:=gb163) (o:=.cells #[.int .i64 a0_0,.int .i64 a0_1,.bool a0_2] 70 (0,0)) (by (with_reducible repeat first|apply bN|apply bD|apply bA);exact BK163.out) hb);have n1_:=Zz.mk (qP (by repeat (first|(with_reducible first|exact HB.out|apply qA|apply qN|apply q1_|refine qS ?_ GE163.out)|exact HB.out)) hb);have n2_:=Zz.mk (hbox);have n3_:=Zz.mk ((by rw [hg];exact (qZ (by repeat (first|(with_reducible first|exact HB.out|apply qA|apply qN|apply q1_|refine qS ?_ GE163.out)|exact HB.out))):w.heap.size≤gb164));have n4_:=Zz.mk ((by rw [hg];exact (qZ (by repeat (first|(with_reducible first|exact HB.out|apply qA|apply qN|apply q1_|refine qS ?_ GE163.out)|exact HB.out))):w.heap.size≤gb164));have n5_:=Zz.mk ((by rw [hg];exact Nat.ne_of_lt (blk_lt (g:=gb163) (o:=.cells #[.int .i64 a0_0,.int .i64 a0_1,.bool a0_2] 70 (0,0)) (by (with_reducible repeat first|apply bN|apply bD|apply bA);exact BK163.out)):gb163 ≠ gb164));have n6_:=Zz.mk ((by rw [hg];exact Nat.ne_of_gt (blk_lt (g:=gb163) (o:=.cells #[.int .i64 a0_0,.int .i64 a0_1,.bool a0_2] 70 (0,0)) (by (with_reducible repeat first|apply bN|apply bD|apply bA);exact BK163.out)):gb164 ≠ gb163));clear BK163;clear HB;have BK163:=n0_;have HB:=n1_;have BK164:=n2_;have GW164:=n3_;have GE164:=n4_;have NB163_164:=n5_;have NB164_163:=n6_;clear n0_ n1_ n2_ n3_ n4_ n5_ n6_;clear hb hbox hg;have hnb23:=NB163_164.out;have hnc23:=NB164_163.out;have hcz24_0:w22.cell? ⟨gb163,0,none⟩=some (.int .i64 a0_0):=(bC BK163.out 0).trans rfl;have hcz24_1:w22.cell? ⟨gb163,1,none⟩=some (.int .i64 a0_1):=(bC BK163.out 1).trans rfl;have hcz24_2:w22.cell? ⟨gb163,2,none⟩=some (.bool a0_2):=(bC BK163.out 2).trans rfl;have hfz24_0:=bF BK163.out 0;have hfz24_1:=bF BK163.out 1;have hfz24_2:=bF BK163.out 2;have hcz25_0:w22.cell? ⟨gb164,0,none⟩=some (.int .i64 a1_0):=(bC BK164.out 0).trans rfl;have hcz25_1:w22.cell? ⟨gb164,1,none⟩=some (.int .i64 a1_1):=(bC BK164.out 1).trans rfl;have hcz25_2:w22.cell? ⟨gb164,2,none⟩=some (.bool a1_2):=(bC BK164.out 2).trans rfl;have hfz25_0:=bF BK164.out 0;have hfz25_1:=bF BK164.out 1;have hfz25_2:=bF BK164.out 2))
  go_ret
  exact ⟨by first|rfl|(simp [errW_none,errW_some] <;> rfl)|(simp [*,errW_none,errW_some] <;> rfl),by repeat (first|(with_reducible first|exact HB.out|apply qA|apply qN|apply q1_|refine qS ?_ GE163.out|refine qS ?_ GE164.out)|exact HB.out)⟩
def laws_eqNodeS.l0:Nat→List (S70)→List (S70)→Int→Option (Bool)
 | 0,_,_,_=>none
 | k+1,x0,x1,x5=>if x5<(x0.length:Int) then (if 0≤x5 then (if x5<(x1.length:Int) then ((laws_eqNode.f ((rd_T70 x0 x5).f0) ((rd_T70 x0 x5).f1) ((rd_T70 x0 x5).f2) ((rd_T70 x1 x5).f0) ((rd_T70 x1 x5).f1) ((rd_T70 x1 x5).f2)).bind fun t167=>(if t167=true then (laws_eqNodeS.l0 k x0 x1 (wrap64 (x5+1))) else (some false))) else (none)) else (none)) else (some true)
def laws_eqNodeS.f (k:Nat) (l0:List (S70)) (l1:List (S70)):Option (Bool):=if (l0.length:Int)=(l1.length:Int) then (laws_eqNodeS.l0 k l0 l1 0) else (some false)
def laws_eqNodeS.T6:Bool × List (List Nat × List Nat):=(true,[([],[]),([],[]),([0,1],[0,1]),([2],[2]),([],[]),([],[]),([4,5],[4,5]),([6],[6]),([3,7],[3,7]),([8],[8])])
def laws_eqNodeS.B6:List Nat:=[0,0,3,7,0,0,48,112,255,511]
theorem laws_eqNodeS.tab6:rtab .any (opsOf Tryz.f33 6)=laws_eqNodeS.T6:=by kernel_rfl
theorem laws_eqNodeS.bits6:waitsOk laws_eqNodeS.T6.2 laws_eqNodeS.B6=true:=by kernel_rfl
set_option maxHeartbeats 8000000 in
set_option maxRecDepth 100000 in
theorem laws_eqNodeS.calls (k:Nat) (A0:Option Addr) (c0:Nat) (l0:List (S70)) (A1:Option Addr) (c1:Nat) (l1:List (S70)) (r:Bool) (w:World) (hr0:Kd.C k70 w A0 l0.length l0) (hc0:l0.length≤c0) (hr1:Kd.C k70 w A1 l1.length l1) (hc1:l1.length≤c1) (h:laws_eqNodeS.f k l0 l1=some r) :
  Calls Tryz.prog 33 #[.slice A0 l0.length c0,.slice A1 l1.length c1] w fun e w'=>e=.returned (.bool r)∧Below w.heap.size w w':=by
 have hu70:=Tryz.underlying70
 have HR0:=Zz.mk hr0
 have HC0:=Zz.mk hc0
 clear hr0 hc0
 have HR1:=Zz.mk hr1
 have HC1:=Zz.mk hc1
 clear hr1 hc1
 have HB:=Zz.mk (Below.refl w.heap.size w)
 have H:(if (l0.length:Int)=(l1.length:Int) then (laws_eqNodeS.l0 k l0 l1 0) else (some false))=some r:=h
 clear h
 by_cases c3:(l0.length:Int)=(l1.length:Int)
 ·rw [if_pos c3] at H
  have c3b0:((l0.length:Int) == (l1.length:Int))=true:=beq_iff_eq.mpr c3
  have c3b1:((l0.length:Int) != (l1.length:Int))=false:=bne_eq_false_iff_eq.mpr c3
  have c3b2:(l0.length == l1.length)=true:=by first|simpa using c3|(simp at c3 ⊢;omega)
  clear c3
  have H':=Zz.mk H
  clear H
  go_enter Tryz.func33,Tryz.ntmps33
  go_wp2
  go_loopg [5] k (fun kq v5 w'=>∃ (x5_1:Int),v5=.int .i64 x5_1∧Zz (laws_eqNodeS.l0 kq l0 l1 x5_1=some r)∧Zz (kq≤k)∧Zz (Below w.heap.size w w'))
  case atStart=>exact ⟨(0),(by first|rfl|(simp;done)|(simp [*];done)),H',⟨Nat.le_refl _⟩,⟨by repeat (first|(with_reducible first|exact HB.out|apply qA|apply qN|apply q1_)|exact HB.out)⟩⟩
  case round =>
   clear H'
   try clear c1
   try clear p2
   try clear c3
   try clear c3b0
   try clear c3b1
   try clear c3b2
   obtain ⟨x5_1,rfl,HA,HK1,HB⟩:=hrel
   cases gk with
   | zero=>exact absurd HA.out (by simp [laws_eqNodeS.l0])
   | succ k1 =>
    have H:=HA.out
    clear HA
    simp only [laws_eqNodeS.l0] at H
    by_cases c4:x5_1<(l0.length:Int)
    ·rw [if_pos c4] at H
     have c4b0:decide (x5_1<(l0.length:Int))=true:=decide_eq_true c4
     clear c4
     by_cases c5:0≤x5_1
     ·rw [if_pos c5] at H
      have c5b0:decide (0≤x5_1)=true:=decide_eq_true c5
      clear c5
      by_cases c6:x5_1<(l1.length:Int)
      ·rw [if_pos c6] at H
       have c6b0:decide (x5_1<(l1.length:Int))=true:=decide_eq_true c6
       clear c6
       replace H:=Option.bind_eq_some_iff.mp H
       obtain ⟨t167,A70,H⟩:=H
       replace H:(if t167=true then (laws_eqNodeS.l0 k1 l0 l1 (wrap64 (x5_1+1))) else (some false))=some r:=H
       have A7:=Zz.mk A70
       clear A70
       by_cases c8:t167=true
       ·subst c8
        have H1:(laws_eqNodeS.l0 k1 l0 l1 (wrap64 (x5_1+1)))=some r:=by rw [if_pos rfl] at H;exact H
        clear H
        have H:=H1
        clear H1
        have H':=Zz.mk H
        clear H
        try go_wp2
        have n0_:=Zz.mk (q1_ HB.out)
        revert n0_
        clear HB
        intro HB
        have p165:0≤(x5_1:Int):=of_decide_eq_true (by first|(with_reducible assumption)|assumption)
        have q165:x5_1<(l0.length:Int):=of_decide_eq_true (by first|(with_reducible assumption)|assumption)
        obtain ⟨ad165,e165,hx165_0,hx165_1,hx165_2⟩:=at_T70 HR0.out x5_1 p165 q165
        have hw165_2:=hx165_2
        have hw165_1:=hx165_1
        have hw165_0:=hx165_0
        cases e165
        replace hx165_0:=(HB.out.cell (World.block_lt_of_cell? w _ hx165_0)).trans hx165_0
        replace hx165_1:=(HB.out.cell (World.block_lt_of_cell? w _ hx165_1)).trans hx165_1
        replace hx165_2:=(HB.out.cell (World.block_lt_of_cell? w _ hx165_2)).trans hx165_2
        replace p165:=eq_true p165
        replace q165:=eq_true q165
        have p166:0≤(x5_1:Int):=of_decide_eq_true (by first|(with_reducible assumption)|assumption)
        have q166:x5_1<(l1.length:Int):=of_decide_eq_true (by first|(with_reducible assumption)|assumption)
        obtain ⟨ad166,e166,hx166_0,hx166_1,hx166_2⟩:=at_T70 HR1.out x5_1 p166 q166
        have hw166_2:=hx166_2
        have hw166_1:=hx166_1
        have hw166_0:=hx166_0
        cases e166
        replace hx166_0:=(HB.out.cell (World.block_lt_of_cell? w _ hx166_0)).trans hx166_0
        replace hx166_1:=(HB.out.cell (World.block_lt_of_cell? w _ hx166_1)).trans hx166_1
        replace hx166_2:=(HB.out.cell (World.block_lt_of_cell? w _ hx166_2)).trans hx166_2
        replace p166:=eq_true p166
        replace q166:=eq_true q166
        refine start_ (n:=10) (S:=fun w'=>w'.cell? (ad165.add ((x5_1).toNat * 3))=some (.int .i64 ((rd_T70 l0 x5_1).f0))∧w'.cell? ⟨(ad165.add ((x5_1).toNat * 3)).block,(ad165.add ((x5_1).toNat * 3)).off+1,none⟩=some (.int .i64 ((rd_T70 l0 x5_1).f1))∧w'.cell? ⟨(ad165.add ((x5_1).toNat * 3)).block,(ad165.add ((x5_1).toNat * 3)).off+2,none⟩=some (.bool ((rd_T70 l0 x5_1).f2))∧w'.cell? (ad166.add ((x5_1).toNat * 3))=some (.int .i64 ((rd_T70 l1 x5_1).f0))∧w'.cell? ⟨(ad166.add ((x5_1).toNat * 3)).block,(ad166.add ((x5_1).toNat * 3)).off+1,none⟩=some (.int .i64 ((rd_T70 l1 x5_1).f1))∧w'.cell? ⟨(ad166.add ((x5_1).toNat * 3)).block,(ad166.add ((x5_1).toNat * 3)).off+2,none⟩=some (.bool ((rd_T70 l1 x5_1).f2))) (ds:=[]) #[false,false,false,false,false,false,false,false,false,false] (by kernel_rfl) rfl rfl ⟨((HB.out.cell (World.block_lt_of_cell? w _ hw165_0)).trans hw165_0),((HB.out.cell (World.block_lt_of_cell? w _ hw165_1)).trans hw165_1),((HB.out.cell (World.block_lt_of_cell? w _ hw165_2)).trans hw165_2),((HB.out.cell (World.block_lt_of_cell? w _ hw166_0)).trans hw166_0),((HB.out.cell (World.block_lt_of_cell? w _ hw166_1)).trans hw166_1),((HB.out.cell (World.block_lt_of_cell? w _ hw166_2)).trans hw166_2)⟩ (fun hHeld=>?_);refine with_tabW laws_eqNodeS.tab6 laws_eqNodeS.bits6 (fun HT_ HW_=>?_)
        generalize wr.drew=w9 at HB hx165_0 hx165_1 hx165_2 hx166_0 hx166_1 hx166_2 hHeld ⊢
        refine pure_ (i:=0) (N:=some 17) (v:=?_) (a':=?_) #[true,false,false,false,false,false,false,false,false,false] rfl rfl (any_of HT_.out (by kernel_rfl)) (fun _ _ _ h=>h) (Or.inl ⟨by rfl,?_⟩) ?_ ?_
        rotate_left
        ·intro w'
         go_simp
         with_reducible rfl
        rotate_left
        ·simp only [Act.put,List.setIfInBounds_toArray,List.set_cons_zero,List.set_cons_succ,i64_w,i32_w]
         rfl
        refine pure_ (i:=1) (N:=some 18) (v:=?_) (a':=?_) #[true,true,false,false,false,false,false,false,false,false] rfl rfl (any_of HT_.out (by kernel_rfl)) (fun _ _ _ h=>h) (Or.inl ⟨by rfl,?_⟩) ?_ ?_
        rotate_left
        ·intro w'
         go_simp
         with_reducible rfl
        rotate_left
        ·simp only [Act.put,List.setIfInBounds_toArray,List.set_cons_zero,List.set_cons_succ,i64_w,i32_w]
         rfl
        refine pure_ (i:=2) (N:=some 19) (v:=?_) (a':=?_) #[true,true,true,false,false,false,false,false,false,false] rfl rfl (any_of HT_.out (by kernel_rfl)) (fun _ _ _ h=>h) (Or.inl ⟨by rfl,?_⟩) ?_ ?_
        rotate_left
        ·intro w'
         go_simp
         with_reducible rfl
        rotate_left
        ·simp only [Act.put,List.setIfInBounds_toArray,List.set_cons_zero,List.set_cons_succ,i64_w,i32_w]
         rfl
        refine pure_ (i:=4) (N:=some 21) (v:=?_) (a':=?_) #[true,true,true,false,true,false,false,false,false,false] rfl rfl (any_of HT_.out (by kernel_rfl)) (fun _ _ _ h=>h) (Or.inl ⟨by rfl,?_⟩) ?_ ?_
        rotate_left
        ·intro w'
         go_simp
         with_reducible rfl
        rotate_left
        ·simp only [Act.put,List.setIfInBounds_toArray,List.set_cons_zero,List.set_cons_succ,i64_w,i32_w]
         rfl
        refine pure_ (i:=5) (N:=some 22) (v:=?_) (a':=?_) #[true,true,true,false,true,true,false,false,false,false] rfl rfl (any_of HT_.out (by kernel_rfl)) (fun _ _ _ h=>h) (Or.inl ⟨by rfl,?_⟩) ?_ ?_
        rotate_left
        ·intro w'
         go_simp
         with_reducible rfl
        rotate_left
        ·simp only [Act.put,List.setIfInBounds_toArray,List.set_cons_zero,List.set_cons_succ,i64_w,i32_w]
         rfl
        refine pure_ (i:=6) (N:=some 23) (v:=?_) (a':=?_) #[true,true,true,false,true,true,true,false,false,false] rfl rfl (any_of HT_.out (by kernel_rfl)) (fun _ _ _ h=>h) (Or.inl ⟨by rfl,?_⟩) ?_ ?_
        rotate_left
        ·intro w'
         go_simp
         with_reducible rfl
        rotate_left
        ·simp only [Act.put,List.setIfInBounds_toArray,List.set_cons_zero,List.set_cons_succ,i64_w,i32_w]
         rfl
        refine take_ (i:=3) (N:=some 20) (v:=?_) (a':=?_) #[true,true,true,true,true,true,true,false,false,false] rfl rfl (take_ofW HT_.out HW_.out (by kernel_rfl)) (fun _ _ _ h=>h) (Or.inl ⟨by rfl,?_⟩) hHeld ?_ ?_
        rotate_left
        ·rintro w' ⟨s0,s1,s2,s3,s4,s5⟩
         go_simp
         with_reducible rfl
        rotate_left
        ·simp only [Act.put,List.setIfInBounds_toArray,List.set_cons_zero,List.set_cons_succ,i64_w,i32_w]
         rfl
        refine take_ (i:=7) (N:=some 24) (v:=?_) (a':=?_) #[true,true,true,true,true,true,true,true,false,false] rfl rfl (take_ofW HT_.out HW_.out (by kernel_rfl)) (fun _ _ _ h=>h) (Or.inl ⟨by rfl,?_⟩) hHeld ?_ ?_
        rotate_left
        ·rintro w' ⟨s0,s1,s2,s3,s4,s5⟩
         go_simp
         with_reducible rfl
        rotate_left
        ·simp only [Act.put,List.setIfInBounds_toArray,List.set_cons_zero,List.set_cons_succ,i64_w,i32_w]
         rfl
        refine one_ (i:=8) (N:=some 25) #[true,true,true,true,true,true,true,true,true,false] rfl rfl (one_of HT_.out (by kernel_rfl)) (by decide) (fun K hK=>?_)
        refine goes_ Tryz.func50 (by kernel_rfl) rfl #[.agg #[.int .i64 ((rd_T70 l0 x5_1).f0),.int .i64 ((rd_T70 l0 x5_1).f1),.bool ((rd_T70 l0 x5_1).f2)],.agg #[.int .i64 ((rd_T70 l1 x5_1).f0),.int .i64 ((rd_T70 l1 x5_1).f1),.bool ((rd_T70 l1 x5_1).f2)]] (by rfl) rfl rfl (by (try simp only [List.map_toArray,List.map_cons,List.map_nil]);first|done|rfl|(simp only [List.length_drop,List.length_take];rfl)) ?_
        with_reducible refine (laws_eqNode.calls ((rd_T70 l0 x5_1).f0) ((rd_T70 l0 x5_1).f1) ((rd_T70 l0 x5_1).f2) ((rd_T70 l1 x5_1).f0) ((rd_T70 l1 x5_1).f1) ((rd_T70 l1 x5_1).f2) true _ A7.out).mono ?_
        rintro e w10 ⟨rfl,hb⟩
        refine ⟨_,rfl,?_⟩
        have n0_:=Zz.mk (qP HB.out hb)
        revert n0_
        clear HB
        intro HB
        (try clear hb)
        (try clear hb2)
        (try clear hk)
        (try clear hi)
        refine hK.out _ _ ⟨((HB.out.cell (World.block_lt_of_cell? w _ hw165_0)).trans hw165_0),((HB.out.cell (World.block_lt_of_cell? w _ hw165_1)).trans hw165_1),((HB.out.cell (World.block_lt_of_cell? w _ hw165_2)).trans hw165_2),((HB.out.cell (World.block_lt_of_cell? w _ hw166_0)).trans hw166_0),((HB.out.cell (World.block_lt_of_cell? w _ hw166_1)).trans hw166_1),((HB.out.cell (World.block_lt_of_cell? w _ hw166_2)).trans hw166_2)⟩ (fun hHeld=>?_)
        clear hK K
        refine norm_ (a':=?_) ?_ ?_
        rotate_left
        ·show Act.put _ (some 25) _=_
         simp only [Act.put,List.setIfInBounds_toArray,List.set_cons_zero,List.set_cons_succ,i64_w,i32_w]
         rfl
        refine pure_ (i:=9) (N:=some 26) (v:=?_) (a':=?_) #[true,true,true,true,true,true,true,true,true,true] rfl rfl (any_of HT_.out (by kernel_rfl)) (fun _ _ _ h=>h) (Or.inl ⟨by rfl,?_⟩) ?_ ?_
        rotate_left
        ·intro w'
         go_simp
         with_reducible rfl
        rotate_left
        ·simp only [Act.put,List.setIfInBounds_toArray,List.set_cons_zero,List.set_cons_succ,i64_w,i32_w]
         rfl
        refine done_ (done_of HT_.out (by kernel_rfl)) ?_
        try go_wp2
        go_roundg k1
        case measure=>have:=HK1.out;omega
        case rel=>exact ⟨(wrap64 (x5_1+1)),(by first|rfl|(simp;done)|(simp [*];done)),H',⟨by have:=HK1.out;omega⟩,⟨by repeat (first|(with_reducible first|exact HB.out|apply qA|apply qN|apply q1_)|exact HB.out)⟩⟩
       ·replace c8:=Bool.eq_false_iff.mpr c8
        subst c8
        have H1:(some false)=some r:=by rw [if_neg (show ¬ (false=true) by decide)] at H;exact H
        clear H
        have H:=H1
        clear H1
        obtain rfl:=Option.some.inj H
        try go_wp2
        have n0_:=Zz.mk (q1_ HB.out)
        revert n0_
        clear HB
        intro HB
        have p165:0≤(x5_1:Int):=of_decide_eq_true (by first|(with_reducible assumption)|assumption)
        have q165:x5_1<(l0.length:Int):=of_decide_eq_true (by first|(with_reducible assumption)|assumption)
        obtain ⟨ad165,e165,hx165_0,hx165_1,hx165_2⟩:=at_T70 HR0.out x5_1 p165 q165
        have hw165_2:=hx165_2
        have hw165_1:=hx165_1
        have hw165_0:=hx165_0
        cases e165
        replace hx165_0:=(HB.out.cell (World.block_lt_of_cell? w _ hx165_0)).trans hx165_0
        replace hx165_1:=(HB.out.cell (World.block_lt_of_cell? w _ hx165_1)).trans hx165_1
        replace hx165_2:=(HB.out.cell (World.block_lt_of_cell? w _ hx165_2)).trans hx165_2
        replace p165:=eq_true p165
        replace q165:=eq_true q165
        have p166:0≤(x5_1:Int):=of_decide_eq_true (by first|(with_reducible assumption)|assumption)
        have q166:x5_1<(l1.length:Int):=of_decide_eq_true (by first|(with_reducible assumption)|assumption)
        obtain ⟨ad166,e166,hx166_0,hx166_1,hx166_2⟩:=at_T70 HR1.out x5_1 p166 q166
        have hw166_2:=hx166_2
        have hw166_1:=hx166_1
        have hw166_0:=hx166_0
        cases e166
        replace hx166_0:=(HB.out.cell (World.block_lt_of_cell? w _ hx166_0)).trans hx166_0
        replace hx166_1:=(HB.out.cell (World.block_lt_of_cell? w _ hx166_1)).trans hx166_1
        replace hx166_2:=(HB.out.cell (World.block_lt_of_cell? w _ hx166_2)).trans hx166_2
        replace p166:=eq_true p166
        replace q166:=eq_true q166
        refine start_ (n:=10) (S:=fun w'=>w'.cell? (ad165.add ((x5_1).toNat * 3))=some (.int .i64 ((rd_T70 l0 x5_1).f0))∧w'.cell? ⟨(ad165.add ((x5_1).toNat * 3)).block,(ad165.add ((x5_1).toNat * 3)).off+1,none⟩=some (.int .i64 ((rd_T70 l0 x5_1).f1))∧w'.cell? ⟨(ad165.add ((x5_1).toNat * 3)).block,(ad165.add ((x5_1).toNat * 3)).off+2,none⟩=some (.bool ((rd_T70 l0 x5_1).f2))∧w'.cell? (ad166.add ((x5_1).toNat * 3))=some (.int .i64 ((rd_T70 l1 x5_1).f0))∧w'.cell? ⟨(ad166.add ((x5_1).toNat * 3)).block,(ad166.add ((x5_1).toNat * 3)).off+1,none⟩=some (.int .i64 ((rd_T70 l1 x5_1).f1))∧w'.cell? ⟨(ad166.add ((x5_1).toNat * 3)).block,(ad166.add ((x5_1).toNat * 3)).off+2,none⟩=some (.bool ((rd_T70 l1 x5_1).f2))) (ds:=[]) #[false,false,false,false,false,false,false,false,false,false] (by kernel_rfl) rfl rfl ⟨((HB.out.cell (World.block_lt_of_cell? w _ hw165_0)).trans hw165_0),((HB.out.cell (World.block_lt_of_cell? w _ hw165_1)).trans hw165_1),((HB.out.cell (World.block_lt_of_cell? w _ hw165_2)).trans hw165_2),((HB.out.cell (World.block_lt_of_cell? w _ hw166_0)).trans hw166_0),((HB.out.cell (World.block_lt_of_cell? w _ hw166_1)).trans hw166_1),((HB.out.cell (World.block_lt_of_cell? w _ hw166_2)).trans hw166_2)⟩ (fun hHeld=>?_);refine with_tabW laws_eqNodeS.tab6 laws_eqNodeS.bits6 (fun HT_ HW_=>?_)
        generalize wr.drew=w11 at HB hx165_0 hx165_1 hx165_2 hx166_0 hx166_1 hx166_2 hHeld ⊢
        refine pure_ (i:=0) (N:=some 17) (v:=?_) (a':=?_) #[true,false,false,false,false,false,false,false,false,false] rfl rfl (any_of HT_.out (by kernel_rfl)) (fun _ _ _ h=>h) (Or.inl ⟨by rfl,?_⟩) ?_ ?_
        rotate_left
        ·intro w'
         go_simp
         with_reducible rfl
        rotate_left
        ·simp only [Act.put,List.setIfInBounds_toArray,List.set_cons_zero,List.set_cons_succ,i64_w,i32_w]
         rfl
        refine pure_ (i:=1) (N:=some 18) (v:=?_) (a':=?_) #[true,true,false,false,false,false,false,false,false,false] rfl rfl (any_of HT_.out (by kernel_rfl)) (fun _ _ _ h=>h) (Or.inl ⟨by rfl,?_⟩) ?_ ?_
        rotate_left
        ·intro w'
         go_simp
         with_reducible rfl
        rotate_left
        ·simp only [Act.put,List.setIfInBounds_toArray,List.set_cons_zero,List.set_cons_succ,i64_w,i32_w]
         rfl
        refine pure_ (i:=2) (N:=some 19) (v:=?_) (a':=?_) #[true,true,true,false,false,false,false,false,false,false] rfl rfl (any_of HT_.out (by kernel_rfl)) (fun _ _ _ h=>h) (Or.inl ⟨by rfl,?_⟩) ?_ ?_
        rotate_left
        ·intro w'
         go_simp
         with_reducible rfl
        rotate_left
        ·simp only [Act.put,List.setIfInBounds_toArray,List.set_cons_zero,List.set_cons_succ,i64_w,i32_w]
         rfl
        refine pure_ (i:=4) (N:=some 21) (v:=?_) (a':=?_) #[true,true,true,false,true,false,false,false,false,false] rfl rfl (any_of HT_.out (by kernel_rfl)) (fun _ _ _ h=>h) (Or.inl ⟨by rfl,?_⟩) ?_ ?_
        rotate_left
        ·intro w'
         go_simp
         with_reducible rfl
        rotate_left
        ·simp only [Act.put,List.setIfInBounds_toArray,List.set_cons_zero,List.set_cons_succ,i64_w,i32_w]
         rfl
        refine pure_ (i:=5) (N:=some 22) (v:=?_) (a':=?_) #[true,true,true,false,true,true,false,false,false,false] rfl rfl (any_of HT_.out (by kernel_rfl)) (fun _ _ _ h=>h) (Or.inl ⟨by rfl,?_⟩) ?_ ?_
        rotate_left
        ·intro w'
         go_simp
         with_reducible rfl
        rotate_left
        ·simp only [Act.put,List.setIfInBounds_toArray,List.set_cons_zero,List.set_cons_succ,i64_w,i32_w]
         rfl
        refine pure_ (i:=6) (N:=some 23) (v:=?_) (a':=?_) #[true,true,true,false,true,true,true,false,false,false] rfl rfl (any_of HT_.out (by kernel_rfl)) (fun _ _ _ h=>h) (Or.inl ⟨by rfl,?_⟩) ?_ ?_
        rotate_left
        ·intro w'
         go_simp
         with_reducible rfl
        rotate_left
        ·simp only [Act.put,List.setIfInBounds_toArray,List.set_cons_zero,List.set_cons_succ,i64_w,i32_w]
         rfl
        refine take_ (i:=3) (N:=some 20) (v:=?_) (a':=?_) #[true,true,true,true,true,true,true,false,false,false] rfl rfl (take_ofW HT_.out HW_.out (by kernel_rfl)) (fun _ _ _ h=>h) (Or.inl ⟨by rfl,?_⟩) hHeld ?_ ?_
        rotate_left
        ·rintro w' ⟨s0,s1,s2,s3,s4,s5⟩
         go_simp
         with_reducible rfl
        rotate_left
        ·simp only [Act.put,List.setIfInBounds_toArray,List.set_cons_zero,List.set_cons_succ,i64_w,i32_w]
         rfl
        refine take_ (i:=7) (N:=some 24) (v:=?_) (a':=?_) #[true,true,true,true,true,true,true,true,false,false] rfl rfl (take_ofW HT_.out HW_.out (by kernel_rfl)) (fun _ _ _ h=>h) (Or.inl ⟨by rfl,?_⟩) hHeld ?_ ?_
        rotate_left
        ·rintro w' ⟨s0,s1,s2,s3,s4,s5⟩
         go_simp
         with_reducible rfl
        rotate_left
        ·simp only [Act.put,List.setIfInBounds_toArray,List.set_cons_zero,List.set_cons_succ,i64_w,i32_w]
         rfl
        refine one_ (i:=8) (N:=some 25) #[true,true,true,true,true,true,true,true,true,false] rfl rfl (one_of HT_.out (by kernel_rfl)) (by decide) (fun K hK=>?_)
        refine goes_ Tryz.func50 (by kernel_rfl) rfl #[.agg #[.int .i64 ((rd_T70 l0 x5_1).f0),.int .i64 ((rd_T70 l0 x5_1).f1),.bool ((rd_T70 l0 x5_1).f2)],.agg #[.int .i64 ((rd_T70 l1 x5_1).f0),.int .i64 ((rd_T70 l1 x5_1).f1),.bool ((rd_T70 l1 x5_1).f2)]] (by rfl) rfl rfl (by (try simp only [List.map_toArray,List.map_cons,List.map_nil]);first|done|rfl|(simp only [List.length_drop,List.length_take];rfl)) ?_
        with_reducible refine (laws_eqNode.calls ((rd_T70 l0 x5_1).f0) ((rd_T70 l0 x5_1).f1) ((rd_T70 l0 x5_1).f2) ((rd_T70 l1 x5_1).f0) ((rd_T70 l1 x5_1).f1) ((rd_T70 l1 x5_1).f2) false _ A7.out).mono ?_
        rintro e w12 ⟨rfl,hb⟩
        refine ⟨_,rfl,?_⟩
        have n0_:=Zz.mk (qP HB.out hb)
        revert n0_
        clear HB
        intro HB
        (try clear hb)
        (try clear hb2)
        (try clear hk)
        (try clear hi)
        refine hK.out _ _ ⟨((HB.out.cell (World.block_lt_of_cell? w _ hw165_0)).trans hw165_0),((HB.out.cell (World.block_lt_of_cell? w _ hw165_1)).trans hw165_1),((HB.out.cell (World.block_lt_of_cell? w _ hw165_2)).trans hw165_2),((HB.out.cell (World.block_lt_of_cell? w _ hw166_0)).trans hw166_0),((HB.out.cell (World.block_lt_of_cell? w _ hw166_1)).trans hw166_1),((HB.out.cell (World.block_lt_of_cell? w _ hw166_2)).trans hw166_2)⟩ (fun hHeld=>?_)
        clear hK K
        refine norm_ (a':=?_) ?_ ?_
        rotate_left
        ·show Act.put _ (some 25) _=_
         simp only [Act.put,List.setIfInBounds_toArray,List.set_cons_zero,List.set_cons_succ,i64_w,i32_w]
         rfl
        refine pure_ (i:=9) (N:=some 26) (v:=?_) (a':=?_) #[true,true,true,true,true,true,true,true,true,true] rfl rfl (any_of HT_.out (by kernel_rfl)) (fun _ _ _ h=>h) (Or.inl ⟨by rfl,?_⟩) ?_ ?_
        rotate_left
        ·intro w'
         go_simp
         with_reducible rfl
        rotate_left
        ·simp only [Act.put,List.setIfInBounds_toArray,List.set_cons_zero,List.set_cons_succ,i64_w,i32_w]
         rfl
        refine done_ (done_of HT_.out (by kernel_rfl)) ?_
        try go_wp2
        go_ret
        exact ⟨by first|rfl|(simp [errW_none,errW_some] <;> rfl)|(simp [*,errW_none,errW_some] <;> rfl),by repeat (first|(with_reducible first|exact HB.out|apply qA|apply qN|apply q1_)|exact HB.out)⟩
      ·rw [if_neg c6] at H
       exact absurd H (by simp)
     ·rw [if_neg c5] at H
      exact absurd H (by simp)
    ·rw [if_neg c4] at H
     have c4b0:decide (x5_1<(l0.length:Int))=false:=decide_eq_false c4
     clear c4
     obtain rfl:=Option.some.inj H
     go_wp2
     go_ret
     exact ⟨by first|rfl|(simp [errW_none,errW_some] <;> rfl)|(simp [*,errW_none,errW_some] <;> rfl),by repeat (first|(with_reducible first|exact HB.out|apply qA|apply qN|apply q1_)|exact HB.out)⟩
 ·rw [if_neg c3] at H
  have c3b0:((l0.length:Int) == (l1.length:Int))=false:=beq_eq_false_iff_ne.mpr c3
  have c3b1:((l0.length:Int) != (l1.length:Int))=true:=bne_iff_ne.mpr c3
  have c3b2:(l0.length == l1.length)=false:=by first|simpa using c3|(simp at c3 ⊢;omega)
  obtain rfl:=Option.some.inj H
  go_enter Tryz.func33,Tryz.ntmps33
  go_wp2
  go_ret
  exact ⟨by first|rfl|(simp [errW_none,errW_some] <;> rfl)|(simp [*,errW_none,errW_some] <;> rfl),by repeat (first|(with_reducible first|exact HB.out|apply qA|apply qN|apply q1_)|exact HB.out)⟩
end Go.Proofs.YtadpmgdmiaoniaaGreatDoor.Q
