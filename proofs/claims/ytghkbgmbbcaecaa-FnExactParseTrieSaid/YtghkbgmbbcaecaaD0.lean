import Derived.Test.YtghkbgmbbcaecaaDwWords
import Derived.Test.YtghkbgmbbcaecaaDwLast
import Derived.Test.YtghkbgmbbcaecaaDwTab
import Derived.Test.YtghkbgmbbcaecaaDwApart
import Derived.Test.YtghkbgmbbcaecaaDwFoot
import Derived.Test.YtghkbgmbbcaecaaDwKept
import Derived.Test.YtghkbgmbbcaecaaDwShare
import Derived.Test.YtghkbgmbbcaecaaDwN
import Derived.Test.YtghkbgmbbcaecaaDwRepsOne
import Derived.Test.YtghkbgmbbcaecaaDwGuard
import Derived.Test.YtghkbgmbbcaecaaDwMore
import Derived.Test.YtghkbgmbbcaecaaProg
import Derived.Below
import Derived.Deep.Draws
import Derived.Deep.AppendLies
import Derived.Maps.AppendAt
import Derived.OwnWalk
import Derived.Laws.BytesArg
import Derived.Laws.MakeOwn
import Derived.Laws.OwnMore
import Derived.Deep.OwnRows
import Derived.Tactics
import Derived.Lib.ConvBytes
import Derived.Laws.Slices
import Derived.WalkKit
import Derived.KernelRfl
import Derived.RowKit3
import Derived.Deep.LoopGhost
import Derived.Deep.QuietTactic
import Derived.BigQuiet
import Derived.WideLaws
import Derived.Deep.DeepCutAuto
import Derived.Deep.CutBlock
import Derived.Deep.RegionHeld3
import Derived.Laws.Rows
import Derived.Lib.AppendStr
import Derived.ArgAppend
import Derived.Laws.IdiomCopy
import Derived.OrdersHeld
import Derived.Laws.BitsLemmas
import Derived.RowKit
import Derived.Lib.SlicesCompact
import Derived.Lib.OwnBridge
import Derived.Sort.OwnSorted
import Derived.Sort.Grow
import Derived.RangeFuncBox
import Derived.RangeFuncLeaves
import Derived.Shelf.Abstract
import Derived.OwnWalkIn
import Derived.TacticsInMore
import Derived.LoopNIn
import Derived.LoopIn
import Derived.Shelf.Strings.OnBuilder
import Derived.Ground.NamesProg
import Derived.Ground.SlgfProg
import Derived.Shelf.Sort.Plain
import Derived.Shelf.Slices.CompactS
import Derived.Shelf.Slices.In.SortNone
import Derived.Sort.Walk0
import Derived.Lib.Strings
import Derived.Maps.Own
import Derived.StringKeys
import Derived.Maps.OwnOps
import Derived.Maps.OwnSet
import Derived.Maps.Views
import Derived.Laws.AppendOwn
import Derived.Deep.DrawnRows
set_option linter.unusedVariables false
set_option linter.unusedSimpArgs false
namespace Go.Proofs.Ytghkbgmbbcaecaa.Q
open Go.RowKit Go.Proofs.YtghkbgmbbcaecaaW.PrintWords Go.Proofs.YtghkbgmbbcaecaaW.PrintLast Go.Proofs.YtghkbgmbbcaecaaW.PrintMore
attribute [local go_sem] max2_int min2_int max_two min_two max_three min_three max_four min_four   -- for this text's walks alone
set_option linter.unusedVariables false
set_option linter.unusedSimpArgs false
def errW:Option Int→Value
  | none=>.nilIface
  | some c=>.iface 0 (.int .i64 c)
theorem errW_none:errW none=.nilIface:=rfl
theorem errW_some (c:Int):errW (some c)=.iface 0 (.int .i64 c):=rfl
theorem info3:(Try.prog.info? 3).map (fun i=>(i.zero,i.size,i.bytes))=some (some (.int .i64 0),1,8):=by kernel_rfl
theorem info9:(Try.prog.info? 9).map (fun i=>(i.zero,i.size,i.bytes))=some (some (.string ⟨#[]⟩),1,16):=by kernel_rfl
theorem info62:(Try.prog.info? 62).map (fun i=>(i.zero,i.size,i.bytes))=some (some (.agg #[(.int .i64 0),(.int .i64 0),(.bool false)]),3,24):=by kernel_rfl
structure S62 where
  f0:Int
  f1:Int
  f2:Bool
def z62:S62:=⟨(0:Int),(0:Int),false⟩
def k62:Kd S62:=Kd.iso (Kd.pair (Kd.int .i64) (Kd.pair (Kd.int .i64) Kd.bool)) (fun x:S62=>(x.f0,x.f1,x.f2))
theorem k62_open {w:World} {x:S62} {cs:List Value} (h:k62.K w x cs):cs=[.int .i64 x.f0,.int .i64 x.f1,.bool x.f2]:=by
  obtain ⟨_,_,rfl,rfl,⟨_,_,rfl,rfl,rfl⟩⟩:=h
  exact rfl
theorem k62_openM {w:World} {base:Nat} {ok:Nat→Prop} {x:S62} {cs:List Value} (h:k62.M w base ok x cs):cs=[.int .i64 x.f0,.int .i64 x.f1,.bool x.f2]:=by
  obtain ⟨_,_,rfl,rfl,⟨_,_,rfl,rfl,rfl⟩⟩:=h
  exact rfl
theorem k62_mkM (w:World) (base:Nat) (ok:Nat→Prop) (x:S62)  : k62.M w base ok x [.int .i64 x.f0,.int .i64 x.f1,.bool x.f2]:=⟨[.int .i64 x.f0],[.int .i64 x.f1,.bool x.f2],rfl,rfl,⟨[.int .i64 x.f1],[.bool x.f2],rfl,rfl,rfl⟩⟩
def rT (xs:List S62) (i:Int):S62:=xs.getD i.toNat z62
theorem at_T62 {w:World} {A:Option Addr} {n:Nat} {xs:List S62} (h:Kd.C k62 w A n xs) (i:Int) (h0:0≤i) (h1:i<n):∃ ad ,A=some ad∧w.cell? (ad.add (i.toNat * 3))=some (.int .i64 (rT xs i).f0)∧w.cell? ⟨(ad.add (i.toNat * 3)).block,(ad.add (i.toNat * 3)).off+1,none⟩=some (.int .i64 (rT xs i).f1)∧w.cell? ⟨(ad.add (i.toNat * 3)).block,(ad.add (i.toNat * 3)).off+2,none⟩=some (.bool (rT xs i).f2):=by
  obtain ⟨ad,c,e,_,hK,hc0⟩:=Kd.C_get h z62 i h0 h1
  have hc:∀ j u,c[j]?=some u→w.cell? (ad.add (i.toNat * 3+j))=some u:=hc0
  obtain rfl:=k62_open hK
  exact ⟨ad,e,hc 0 _ rfl,by rw [← add_field _ _ 1 (by omega)];exact hc 1 _ rfl,by rw [← add_field _ _ 2 (by omega)];exact hc 2 _ rfl⟩
theorem R_same_ {α:Type} {d:Kd α} {e:Nat} {w w1:World} {base:Nat} {ok:Nat→Prop} {v:Value} {xs:List α} (h:Kd.R d e w base ok v xs) (hh:w1.heap=w.heap):Kd.R d e w1 base ok v xs:=Kd.R_step h (fun k _ _=>by rw [hh])
theorem V_same_ {α:Type} {d:Kd α} {e:Nat} {w w1:World} {base:Nat} {ok:Nat→Prop} {v:Value} {xs:List α} (h:Kd.V d e w base ok v xs) (hh:w1.heap=w.heap):Kd.V d e w1 base ok v xs:=Kd.V_step h (fun k _ _=>by rw [hh])
def Sep (u v:Value):Prop:=∀ k,u.ownBlock=some k→v.ownBlock=some k→False
theorem Sep.symm {u v:Value} (h:Sep u v):Sep v u:=fun k a b=>h k b a
theorem isSome_setCell (w:World) (a b:Addr) (v:Value):((w.setCell a v).cell? b).isSome=(w.cell? b).isSome:=by
  by_cases e:a=b
  · subst e
    simp only [World.setCell,World.cell?,Array.getElem?_modify,↓reduceIte]
    cases w.heap[a.block]? with
    | none=>rfl
    | some o =>
      cases o with
      | cells c t f =>
        simp only [Option.map_some]
        cases a.spot with
        | some z=>simp
        | none=>by_cases h:a.off<c.size <;> simp [h]
      | _=>rfl
  · rw [World.cell?_setCell_other _ _ _ _ e]
theorem run_field_23 (v:Value) (w:World):Sem.run Try.prog (Instr.field 23 (.agg #[v]) 0) w=.ok v w:=by kernel_rfl
theorem run_field_24 (v:Value) (w:World):Sem.run Try.prog (Instr.field 24 (.agg #[v]) 0) w=.ok v w:=by kernel_rfl
theorem run_field_31 (v:Value) (w:World):Sem.run Try.prog (Instr.field 31 (.agg #[v]) 0) w=.ok v w:=by kernel_rfl
theorem run_field_32 (v:Value) (w:World):Sem.run Try.prog (Instr.field 32 (.agg #[v]) 0) w=.ok v w:=by kernel_rfl
theorem run_field_35 (v:Value) (w:World):Sem.run Try.prog (Instr.field 35 (.agg #[v]) 0) w=.ok v w:=by kernel_rfl
theorem run_field_36 (v:Value) (w:World):Sem.run Try.prog (Instr.field 36 (.agg #[v]) 0) w=.ok v w:=by kernel_rfl
end Go.Proofs.Ytghkbgmbbcaecaa.Q
namespace Go.Proofs.Ytghkbgmbbcaecaa.Q
open Go.RowKit Go.Proofs.YtghkbgmbbcaecaaW.PrintWords Go.Proofs.YtghkbgmbbcaecaaW.PrintLast Go.Proofs.YtghkbgmbbcaecaaW.PrintMore
attribute [local go_sem] run_field_23 run_field_24 run_field_31 run_field_32 run_field_35 run_field_36 isSome_setCell max2_int min2_int max_two min_two max_three min_three max_four min_four   -- for this text's walks alone
set_option linter.unusedVariables false
set_option linter.unusedSimpArgs false
def cmp_isNaN_string.f (a0:ByteArray):Option (Bool):=some (a0.toList != a0.toList)
set_option maxHeartbeats 8000000 in
set_option maxRecDepth 100000 in
theorem cmp_isNaN_string.calls (a0:ByteArray) (r:Bool) (w:World) (h:cmp_isNaN_string.f a0=some r) :
  Calls Try.prog 74 #[.string a0] w fun e w'=>e=.returned (.bool r)∧Drawn0 w w':=by
 have H:(some (a0.toList != a0.toList))=some r:=h
 clear h
 obtain rfl:=Option.some.inj H
 go_enter Try.func74,Try.ntmps74
 go_wp2
 go_ret
 exact ⟨by first|rfl|(simp;done)|(simp [*];done),by repeat (first|exact Drawn0.refl _|apply Drawn0.step)⟩
def cmp_Less_string.f (a0:ByteArray) (a1:ByteArray):Option (Bool):=(cmp_isNaN_string.f a0).bind fun t101=>(if t101=true then ((cmp_isNaN_string.f a1).bind fun t102=>(if t102=true then (some (Op.bytesLess a0.toList a1.toList)) else (some true))) else (some (Op.bytesLess a0.toList a1.toList)))
set_option maxHeartbeats 8000000 in
set_option maxRecDepth 100000 in
theorem cmp_Less_string.calls (a0:ByteArray) (a1:ByteArray) (r:Bool) (w:World) (h:cmp_Less_string.f a0 a1=some r) :
  Calls Try.prog 67 #[.string a0,.string a1] w fun e w'=>e=.returned (.bool r)∧Drawn0 w w':=by
 have H:((cmp_isNaN_string.f a0).bind fun t101=>(if t101=true then ((cmp_isNaN_string.f a1).bind fun t102=>(if t102=true then (some (Op.bytesLess a0.toList a1.toList)) else (some true))) else (some (Op.bytesLess a0.toList a1.toList))))=some r:=h
 clear h
 replace H:=Option.bind_eq_some_iff.mp H
 obtain ⟨t101,A30,H⟩:=H
 replace H:(if t101=true then ((cmp_isNaN_string.f a1).bind fun t102=>(if t102=true then (some (Op.bytesLess a0.toList a1.toList)) else (some true))) else (some (Op.bytesLess a0.toList a1.toList)))=some r:=H
 have A3:=Zz.mk A30
 clear A30
 by_cases c4:t101=true
 ·subst c4
  have H1:((cmp_isNaN_string.f a1).bind fun t102=>(if t102=true then (some (Op.bytesLess a0.toList a1.toList)) else (some true)))=some r:=by rw [if_pos rfl] at H;exact H
  clear H
  have H:=H1
  clear H1
  replace H:=Option.bind_eq_some_iff.mp H
  obtain ⟨t102,A50,H⟩:=H
  replace H:(if t102=true then (some (Op.bytesLess a0.toList a1.toList)) else (some true))=some r:=H
  have A5:=Zz.mk A50
  clear A50
  by_cases c6:t102=true
  ·subst c6
   have H1:(some (Op.bytesLess a0.toList a1.toList))=some r:=by rw [if_pos rfl] at H;exact H
   clear H
   have H:=H1
   clear H1
   obtain rfl:=Option.some.inj H
   go_enter Try.func67,Try.ntmps67
   go_wp2_with (first|((with_reducible refine gate_callee (f:=74) rfl ?_);refine goesL_ (some 6) rfl rfl Try.func74 (by kernel_rfl) rfl #[.string a0] rfl (by (try simp only [List.map_toArray,List.map_cons,List.map_nil]);first|done|rfl|(simp only [List.length_drop,List.length_take];rfl)) ?_;(with_reducible refine (cmp_isNaN_string.calls a0 true _ A3.out).mono ?_);rintro e w' ⟨rfl,⟨nd,rfl⟩⟩;refine ⟨_,rfl,?_⟩)|(go_at_call 74;(with_reducible refine (cmp_isNaN_string.calls a1 true _ A5.out).mono ?_);rintro e w' ⟨rfl,⟨nd,rfl⟩⟩))
   go_ret
   exact ⟨by first|rfl|(simp;done)|(simp [*];done),by repeat (first|exact Drawn0.refl _|apply Drawn0.step)⟩
  ·replace c6:=Bool.eq_false_iff.mpr c6
   subst c6
   have H1:(some true)=some r:=by rw [if_neg (show ¬ (false=true) by decide)] at H;exact H
   clear H
   have H:=H1
   clear H1
   obtain rfl:=Option.some.inj H
   go_enter Try.func67,Try.ntmps67
   go_wp2_with (first|((with_reducible refine gate_callee (f:=74) rfl ?_);refine goesL_ (some 6) rfl rfl Try.func74 (by kernel_rfl) rfl #[.string a0] rfl (by (try simp only [List.map_toArray,List.map_cons,List.map_nil]);first|done|rfl|(simp only [List.length_drop,List.length_take];rfl)) ?_;(with_reducible refine (cmp_isNaN_string.calls a0 true _ A3.out).mono ?_);rintro e w' ⟨rfl,⟨nd,rfl⟩⟩;refine ⟨_,rfl,?_⟩)|(go_at_call 74;(with_reducible refine (cmp_isNaN_string.calls a1 false _ A5.out).mono ?_);rintro e w' ⟨rfl,⟨nd,rfl⟩⟩))
   go_ret
   exact ⟨by first|rfl|(simp;done)|(simp [*];done),by repeat (first|exact Drawn0.refl _|apply Drawn0.step)⟩
 ·replace c4:=Bool.eq_false_iff.mpr c4
  subst c4
  have H1:(some (Op.bytesLess a0.toList a1.toList))=some r:=by rw [if_neg (show ¬ (false=true) by decide)] at H;exact H
  clear H
  have H:=H1
  clear H1
  obtain rfl:=Option.some.inj H
  go_enter Try.func67,Try.ntmps67
  go_wp2_with (first|((with_reducible refine gate_callee (f:=74) rfl ?_);refine goesL_ (some 6) rfl rfl Try.func74 (by kernel_rfl) rfl #[.string a0] rfl (by (try simp only [List.map_toArray,List.map_cons,List.map_nil]);first|done|rfl|(simp only [List.length_drop,List.length_take];rfl)) ?_;(with_reducible refine (cmp_isNaN_string.calls a0 false _ A3.out).mono ?_);rintro e w' ⟨rfl,⟨nd,rfl⟩⟩;refine ⟨_,rfl,?_⟩))
  go_ret
  exact ⟨by first|rfl|(simp;done)|(simp [*];done),by repeat (first|exact Drawn0.refl _|apply Drawn0.step)⟩
def slices_isNaN_string.f (a0:ByteArray):Option (Bool):=some (a0.toList != a0.toList)
set_option maxHeartbeats 8000000 in
set_option maxRecDepth 100000 in
theorem slices_isNaN_string.calls (a0:ByteArray) (r:Bool) (w:World) (h:slices_isNaN_string.f a0=some r) :
  Calls Try.prog 73 #[.string a0] w fun e w'=>e=.returned (.bool r)∧Drawn0 w w':=by
 have H:(some (a0.toList != a0.toList))=some r:=h
 clear h
 obtain rfl:=Option.some.inj H
 go_enter Try.func73,Try.ntmps73
 go_wp2
 go_ret
 exact ⟨by first|rfl|(simp;done)|(simp [*];done),by repeat (first|exact Drawn0.refl _|apply Drawn0.step)⟩
def slices_BinarySearch_string_string.l0:Nat→List ByteArray→ByteArray→Int→Int→Int→Option (Int × Bool)
 | 0,_,_,_,_,_=>none
 | k+1,x0,x1,x6,x7,x8=>if x7<x8 then (if 0≤(wrap64 ((IntKind.u64.wrap (wrap64 (x7+x8))) / 2)) then (if (wrap64 ((IntKind.u64.wrap (wrap64 (x7+x8))) / 2))<(x0.length:Int) then ((cmp_Less_string.f (rdOf ByteArray.empty x0 (wrap64 ((IntKind.u64.wrap (wrap64 (x7+x8))) / 2))) x1).bind fun t104=>(if t104=true then (slices_BinarySearch_string_string.l0 k x0 x1 x6 (wrap64 ((wrap64 ((IntKind.u64.wrap (wrap64 (x7+x8))) / 2))+1)) x8) else (slices_BinarySearch_string_string.l0 k x0 x1 x6 x7 (wrap64 ((IntKind.u64.wrap (wrap64 (x7+x8))) / 2))))) else (none)) else (none)) else (if x7<x6 then (if 0≤x7 then (if x7<(x0.length:Int) then (if (rdOf ByteArray.empty x0 x7).toList=x1.toList then (some (x7,true)) else ((slices_isNaN_string.f (rdOf ByteArray.empty x0 x7)).bind fun t107=>(if t107=true then ((slices_isNaN_string.f x1).bind fun t108=>(some (x7,t108))) else (some (x7,false))))) else (none)) else (none)) else (some (x7,false)))
def slices_BinarySearch_string_string.f (k:Nat) (l0:List ByteArray) (a1:ByteArray):Option (Int × Bool):=slices_BinarySearch_string_string.l0 k l0 a1 (l0.length:Int) 0 (l0.length:Int)
set_option maxHeartbeats 8000000 in
set_option maxRecDepth 100000 in
theorem slices_BinarySearch_string_string.calls (k:Nat) (A0:Option Addr) (c0:Nat) (l0:List ByteArray) (a1:ByteArray) (r1:Int) (r2:Bool) (w:World) (hr0:Kd.C Kd.string w A0 l0.length l0) (hc0:l0.length≤c0) (h:slices_BinarySearch_string_string.f k l0 a1=some (r1,r2)) :
  Calls Try.prog 64 #[.slice A0 l0.length c0,.string a1] w fun e w'=>e=.returned (.tuple #[.int .i64 r1,.bool r2])∧Drawn0 w w':=by
 have HR0:=Zz.mk hr0
 have HC0:=Zz.mk hc0
 clear hr0 hc0
 have H:(slices_BinarySearch_string_string.l0 k l0 a1 (l0.length:Int) 0 (l0.length:Int))=some (r1,r2):=h
 clear h
 have H':=Zz.mk H
 clear H
 go_enter Try.func64,Try.ntmps64
 go_wp2
 go_loopg [7,8] k (fun kq v7 v8 w'=>∃ (x7_1:Int) (x8_1:Int),v7=.int .i64 x7_1∧v8=.int .i64 x8_1∧Zz (slices_BinarySearch_string_string.l0 kq l0 a1 (l0.length:Int) x7_1 x8_1=some (r1,r2))∧Zz (kq≤k)∧Drawn0 w w')
 case atStart=>exact ⟨(0),((l0.length:Int)),(by first|rfl|(simp;done)|(simp [*];done)),(by first|rfl|(simp;done)|(simp [*];done)),H',⟨Nat.le_refl _⟩,by repeat (first|exact Drawn0.refl _|apply Drawn0.step)⟩
 case round =>
  clear H'
  try clear p2
  obtain ⟨x7_1,x8_1,rfl,rfl,HA,HK1,⟨m1,rfl⟩⟩:=hrel
  cases gk with
  | zero=>exact absurd HA.out (by simp [slices_BinarySearch_string_string.l0])
  | succ k1 =>
   have H:=HA.out
   clear HA
   simp only [slices_BinarySearch_string_string.l0] at H
   by_cases c3:x7_1<x8_1
   ·rw [if_pos c3] at H
    have c3b0:decide (x7_1<x8_1)=true:=decide_eq_true c3
    clear c3
    obtain ⟨ji4,hji4⟩:∃ j_:Int,(wrap64 ((IntKind.u64.wrap (wrap64 (x7_1+x8_1))) / 2))=j_:=⟨_,rfl⟩
    replace H:(if 0≤(ji4) then (if (ji4)<(l0.length:Int) then ((cmp_Less_string.f (rdOf ByteArray.empty l0 (ji4)) a1).bind fun t104=>(if t104=true then (slices_BinarySearch_string_string.l0 k1 l0 a1 (l0.length:Int) (wrap64 ((ji4)+1)) x8_1) else (slices_BinarySearch_string_string.l0 k1 l0 a1 (l0.length:Int) x7_1 ji4))) else (none)) else (none))=some (r1,r2):=by first|(rw [hji4] at H;exact H)|(simp only [hji4] at H ⊢;exact H)
    have hji4w:(IntKind.i64.wrap ((IntKind.u64.wrap (wrap64 (x7_1+x8_1))) / 2))=ji4:=(i64_w _).trans hji4
    by_cases c5:0≤(ji4)
    ·rw [if_pos c5] at H
     have c5b0:decide (0≤(ji4))=true:=decide_eq_true c5
     clear c5
     by_cases c6:(ji4)<(l0.length:Int)
     ·rw [if_pos c6] at H
      have c6b0:decide ((ji4)<(l0.length:Int))=true:=decide_eq_true c6
      clear c6
      replace H:=Option.bind_eq_some_iff.mp H
      obtain ⟨t104,A70,H⟩:=H
      replace H:(if t104=true then (slices_BinarySearch_string_string.l0 k1 l0 a1 (l0.length:Int) (wrap64 ((ji4)+1)) x8_1) else (slices_BinarySearch_string_string.l0 k1 l0 a1 (l0.length:Int) x7_1 ji4))=some (r1,r2):=H
      have A7:=Zz.mk A70
      clear A70
      by_cases c8:t104=true
      ·subst c8
       have H1:(slices_BinarySearch_string_string.l0 k1 l0 a1 (l0.length:Int) (wrap64 ((ji4)+1)) x8_1)=some (r1,r2):=by rw [if_pos rfl] at H;exact H
       clear H
       have H:=H1
       clear H1
       have H':=Zz.mk H
       clear H
       have p103:0≤((ji4):Int):=of_decide_eq_true (by first|(with_reducible assumption)|assumption)
       have q103:(ji4)<(l0.length:Int):=of_decide_eq_true (by first|(with_reducible assumption)|assumption)
       obtain ⟨ad103,e103,hx103_0⟩:=Kd.at_string HR0.out (ji4) p103 q103
       cases e103
       replace p103:=eq_true p103
       replace q103:=eq_true q103
       go_wp2_with (first|((with_reducible refine gate_callee (f:=67) rfl ?_);refine goesL_ (some 27) rfl rfl Try.func67 (by kernel_rfl) rfl #[.string (rdOf ByteArray.empty l0 (ji4)),.string a1] rfl (by (try simp only [List.map_toArray,List.map_cons,List.map_nil]);first|done|(simp only [hji4];rfl)|rfl|(simp only [List.length_drop,List.length_take];rfl)) ?_;(with_reducible refine (cmp_Less_string.calls (rdOf ByteArray.empty l0 (ji4)) a1 true _ A7.out).mono ?_);rintro e w' ⟨rfl,⟨nd,rfl⟩⟩;refine ⟨_,rfl,?_⟩))
       go_roundg k1
       case measure=>have:=HK1.out;omega
       case rel=>exact ⟨(wrap64 ((ji4)+1)),(x8_1),(by first|rfl|(simp;done)|(simp only [← hji4] <;> (first|rfl|simp))|(simp [*];done)),(by first|rfl|(simp;done)|(simp [*];done)),H',⟨by have:=HK1.out;omega⟩,by repeat (first|exact Drawn0.refl _|apply Drawn0.step)⟩
      ·replace c8:=Bool.eq_false_iff.mpr c8
       subst c8
       have H1:(slices_BinarySearch_string_string.l0 k1 l0 a1 (l0.length:Int) x7_1 ji4)=some (r1,r2):=by rw [if_neg (show ¬ (false=true) by decide)] at H;exact H
       clear H
       have H:=H1
       clear H1
       have H':=Zz.mk H
       clear H
       have p103:0≤((ji4):Int):=of_decide_eq_true (by first|(with_reducible assumption)|assumption)
       have q103:(ji4)<(l0.length:Int):=of_decide_eq_true (by first|(with_reducible assumption)|assumption)
       obtain ⟨ad103,e103,hx103_0⟩:=Kd.at_string HR0.out (ji4) p103 q103
       cases e103
       replace p103:=eq_true p103
       replace q103:=eq_true q103
       go_wp2_with (first|((with_reducible refine gate_callee (f:=67) rfl ?_);refine goesL_ (some 27) rfl rfl Try.func67 (by kernel_rfl) rfl #[.string (rdOf ByteArray.empty l0 (ji4)),.string a1] rfl (by (try simp only [List.map_toArray,List.map_cons,List.map_nil]);first|done|(simp only [hji4];rfl)|rfl|(simp only [List.length_drop,List.length_take];rfl)) ?_;(with_reducible refine (cmp_Less_string.calls (rdOf ByteArray.empty l0 (ji4)) a1 false _ A7.out).mono ?_);rintro e w' ⟨rfl,⟨nd,rfl⟩⟩;refine ⟨_,rfl,?_⟩))
       go_roundg k1
       case measure=>have:=HK1.out;omega
       case rel=>exact ⟨(x7_1),(ji4),(by first|rfl|(simp;done)|(simp [*];done)),(by first|rfl|(simp;done)|(simp only [← hji4] <;> (first|rfl|simp))|(simp [*];done)),H',⟨by have:=HK1.out;omega⟩,by repeat (first|exact Drawn0.refl _|apply Drawn0.step)⟩
     ·rw [if_neg c6] at H
      exact absurd H (by simp)
    ·rw [if_neg c5] at H
     exact absurd H (by simp)
   ·rw [if_neg c3] at H
    have c3b0:decide (x7_1<x8_1)=false:=decide_eq_false c3
    clear c3
    by_cases c9:x7_1<(l0.length:Int)
    ·rw [if_pos c9] at H
     have c9b0:decide (x7_1<(l0.length:Int))=true:=decide_eq_true c9
     clear c9
     by_cases c10:0≤x7_1
     ·rw [if_pos c10] at H
      have c10b0:decide (0≤x7_1)=true:=decide_eq_true c10
      clear c10
      by_cases c11:x7_1<(l0.length:Int)
      ·rw [if_pos c11] at H
       have c11b0:decide (x7_1<(l0.length:Int))=true:=decide_eq_true c11
       clear c11
       by_cases c12:(rdOf ByteArray.empty l0 x7_1).toList=a1.toList
       ·rw [if_pos c12] at H
        have c12b0:((rdOf ByteArray.empty l0 x7_1).toList == a1.toList)=true:=beq_iff_eq.mpr c12
        have c12b1:((rdOf ByteArray.empty l0 x7_1).toList != a1.toList)=false:=bne_eq_false_iff_eq.mpr c12
        clear c12
        simp only [Option.some.injEq,Prod.mk.injEq] at H
        obtain ⟨rfl,rfl⟩:=H
        have p105:0≤(x7_1:Int):=of_decide_eq_true (by first|(with_reducible assumption)|assumption)
        have q105:x7_1<(l0.length:Int):=of_decide_eq_true (by first|(with_reducible assumption)|assumption)
        obtain ⟨ad105,e105,hx105_0⟩:=Kd.at_string HR0.out x7_1 p105 q105
        cases e105
        replace p105:=eq_true p105
        replace q105:=eq_true q105
        go_wp2
        go_ret2
        exact ⟨by first|rfl|(simp;done)|(simp [*];done),by repeat (first|exact Drawn0.refl _|apply Drawn0.step)⟩
       ·rw [if_neg c12] at H
        have c12b0:((rdOf ByteArray.empty l0 x7_1).toList == a1.toList)=false:=beq_eq_false_iff_ne.mpr c12
        have c12b1:((rdOf ByteArray.empty l0 x7_1).toList != a1.toList)=true:=bne_iff_ne.mpr c12
        replace H:=Option.bind_eq_some_iff.mp H
        obtain ⟨t107,A130,H⟩:=H
        replace H:(if t107=true then ((slices_isNaN_string.f a1).bind fun t108=>(some (x7_1,t108))) else (some (x7_1,false)))=some (r1,r2):=H
        have A13:=Zz.mk A130
        clear A130
        by_cases c14:t107=true
        ·subst c14
         have H1:((slices_isNaN_string.f a1).bind fun t108=>(some (x7_1,t108)))=some (r1,r2):=by rw [if_pos rfl] at H;exact H
         clear H
         have H:=H1
         clear H1
         replace H:=Option.bind_eq_some_iff.mp H
         obtain ⟨t108,A150,H⟩:=H
         replace H:(some (x7_1,t108))=some (r1,r2):=H
         have A15:=Zz.mk A150
         clear A150
         simp only [Option.some.injEq,Prod.mk.injEq] at H
         obtain ⟨rfl,rfl⟩:=H
         have p105:0≤(x7_1:Int):=of_decide_eq_true (by first|(with_reducible assumption)|assumption)
         have q105:x7_1<(l0.length:Int):=of_decide_eq_true (by first|(with_reducible assumption)|assumption)
         obtain ⟨ad105,e105,hx105_0⟩:=Kd.at_string HR0.out x7_1 p105 q105
         cases e105
         replace p105:=eq_true p105
         replace q105:=eq_true q105
         have p106:0≤(x7_1:Int):=of_decide_eq_true (by first|(with_reducible assumption)|assumption)
         have q106:x7_1<(l0.length:Int):=of_decide_eq_true (by first|(with_reducible assumption)|assumption)
         obtain ⟨ad106,e106,hx106_0⟩:=Kd.at_string HR0.out x7_1 p106 q106
         obtain rfl:ad105=ad106:=(by injection e106)
         replace p106:=eq_true p106
         replace q106:=eq_true q106
         go_wp2_with (first|(go_at_call 73;(with_reducible refine (slices_isNaN_string.calls (rdOf ByteArray.empty l0 x7_1) true _ A13.out).mono ?_);rintro e w' ⟨rfl,⟨nd,rfl⟩⟩)|(go_at_call 73;(with_reducible refine (slices_isNaN_string.calls a1 t108 _ A15.out).mono ?_);rintro e w' ⟨rfl,⟨nd,rfl⟩⟩))
         go_ret2
         exact ⟨by first|rfl|(simp;done)|(simp [*];done),by repeat (first|exact Drawn0.refl _|apply Drawn0.step)⟩
        ·replace c14:=Bool.eq_false_iff.mpr c14
         subst c14
         have H1:(some (x7_1,false))=some (r1,r2):=by rw [if_neg (show ¬ (false=true) by decide)] at H;exact H
         clear H
         have H:=H1
         clear H1
         simp only [Option.some.injEq,Prod.mk.injEq] at H
         obtain ⟨rfl,rfl⟩:=H
         have p105:0≤(x7_1:Int):=of_decide_eq_true (by first|(with_reducible assumption)|assumption)
         have q105:x7_1<(l0.length:Int):=of_decide_eq_true (by first|(with_reducible assumption)|assumption)
         obtain ⟨ad105,e105,hx105_0⟩:=Kd.at_string HR0.out x7_1 p105 q105
         cases e105
         replace p105:=eq_true p105
         replace q105:=eq_true q105
         have p106:0≤(x7_1:Int):=of_decide_eq_true (by first|(with_reducible assumption)|assumption)
         have q106:x7_1<(l0.length:Int):=of_decide_eq_true (by first|(with_reducible assumption)|assumption)
         obtain ⟨ad106,e106,hx106_0⟩:=Kd.at_string HR0.out x7_1 p106 q106
         obtain rfl:ad105=ad106:=(by injection e106)
         replace p106:=eq_true p106
         replace q106:=eq_true q106
         go_wp2_with (first|(go_at_call 73;(with_reducible refine (slices_isNaN_string.calls (rdOf ByteArray.empty l0 x7_1) false _ A13.out).mono ?_);rintro e w' ⟨rfl,⟨nd,rfl⟩⟩))
         go_ret2
         exact ⟨by first|rfl|(simp;done)|(simp [*];done),by repeat (first|exact Drawn0.refl _|apply Drawn0.step)⟩
      ·rw [if_neg c11] at H
       exact absurd H (by simp)
     ·rw [if_neg c10] at H
      exact absurd H (by simp)
    ·rw [if_neg c9] at H
     have c9b0:decide (x7_1<(l0.length:Int))=false:=decide_eq_false c9
     clear c9
     simp only [Option.some.injEq,Prod.mk.injEq] at H
     obtain ⟨rfl,rfl⟩:=H
     go_wp2
     go_ret2
     exact ⟨by first|rfl|(simp;done)|(simp [*];done),by repeat (first|exact Drawn0.refl _|apply Drawn0.step)⟩
end Go.Proofs.Ytghkbgmbbcaecaa.Q
namespace Go.Proofs.Ytghkbgmbbcaecaa.Q
open Go.RowKit Go.Proofs.YtghkbgmbbcaecaaW.PrintWords Go.Proofs.YtghkbgmbbcaecaaW.PrintLast Go.Proofs.YtghkbgmbbcaecaaW.PrintMore
attribute [local go_sem] run_field_23 run_field_24 run_field_31 run_field_32 run_field_35 run_field_36 isSome_setCell max2_int min2_int max_two min_two max_three min_three max_four min_four   -- for this text's walks alone
set_option linter.unusedVariables false
set_option linter.unusedSimpArgs false
def impl_letter.f (a0:Int):Option (ByteArray):=some (strOfNums (([(wrap64 (97+a0)) % 256]:List Int)))
set_option maxHeartbeats 8000000 in
set_option maxRecDepth 100000 in
theorem impl_letter.calls (a0:Int) (r:ByteArray) (w:World) (h:impl_letter.f a0=some r) :
  Calls Try.prog 37 #[.int .i64 a0] w fun e w'=>e=.returned (.string r)∧Below w.heap.size w w':=by
 have HB:=Zz.mk (Below.refl w.heap.size w)
 have H:(some (strOfNums (([(wrap64 (97+a0)) % 256]:List Int))))=some r:=h
 clear h
 obtain ⟨y109,hy109⟩:∃ y_:List Int,y_=(([(wrap64 (97+a0)) % 256]:List Int)):=⟨_,rfl⟩
 replace H:(some (strOfNums y109))=some r:=by first|(rw [hy109];with_reducible exact H)|(have H2_:=(Option.bind_some _ _).symm.trans H;rw [hy109];with_reducible exact H2_)|(have H2_:=(Option.bind_some _ _).symm.trans H;with_reducible exact H2_)|with_reducible exact H|(rw [hy109];exact H)|exact H
 have Ny109:=Zz.mk hy109
 clear hy109
 obtain rfl:=Option.some.inj H
 go_enter Try.func37,Try.ntmps37
 go_wp2_with (first|((with_reducible refine gate_dst (N:=6) rfl ?_);refine Kd.R_lit (Kd.int .u8) _ 5 ?hg (N:=6) ?hd (xs:=([(wrap64 (97+a0)) % 256]:List Int)) (inner:=[.int .u8 ((wrap64 (97+a0)) % 256)]) (ok:=fun _=>True) (okp:=fun _=>True) ?hr ?hp (fun _ hk=>hk) trivial (Below.refl _ _) (Nat.le_refl _) (by simp) ?_;(case hd=>rfl);(case hg=>rfl);(case hr=>first|(go_simp;done)|(go_simp;rfl));(case hp=>exact (Reps.one (show Kd.M (Kd.int .u8) _ _ _ ((wrap64 (97+a0)) % 256) [.int .u8 ((wrap64 (97+a0)) % 256)] from rfl) (Reps.none _ _)));intro v110 w2 ho3 hb hg_ hnew_;clear hg_ hnew_;(first|rw [← Ny109.out] at ho3|(simp only [Int.reduceToNat] at ho3;rw [← Ny109.out] at ho3));have n0_:=Zz.mk (Kd.R_lower ho3 (qZ (by repeat (first|(with_reducible first|exact HB.out|apply qA|apply qN|apply q1_)|exact HB.out))));have n1_:=Zz.mk (qP (by repeat (first|(with_reducible first|exact HB.out|apply qA|apply qN|apply q1_)|exact HB.out)) hb);clear HB;have HO111:=n0_;have HB:=n1_;clear n0_ n1_;clear hb ho3;have hcv4:=own_string (P:=Try.prog) Try.underlying83 Try.underlying5 Try.underlying9 (Kd.own_of_R HO111.out)))
 go_ret
 exact ⟨by first|rfl|(simp [errW_none,errW_some] <;> rfl)|(simp [*,errW_none,errW_some] <;> rfl),by repeat (first|(with_reducible first|exact HB.out|apply qA|apply qN|apply q1_)|exact HB.out)⟩
end Go.Proofs.Ytghkbgmbbcaecaa.Q
namespace Go.Proofs.Ytghkbgmbbcaecaa.Q
open Go.RowKit Go.Proofs.YtghkbgmbbcaecaaW.PrintWords
def lw (b:ByteArray):List UInt8:=b.data.toList
def pw (l:List UInt8):ByteArray:=⟨l.toArray⟩
def setW (l:List ByteArray):List ByteArray:=(Lib.compact ((l.map lw).mergeSort fun x y=>decide (x≤y))).map pw
def pfx (w:ByteArray) (n:Nat):List ByteArray:=(List.range n).map fun j=>w.extract 0 (j+1)
def allPfx (l:List ByteArray):List ByteArray:=ByteArray.empty :: l.flatMap fun w=>pfx w w.size
def prefW (l:List ByteArray):List ByteArray:=setW (allPfx l)
def hasW (l:List ByteArray) (x:ByteArray):Bool:=l.any fun y=>decide (y=x)
def nodeW (ps ws:List ByteArray) (p:ByteArray):S62 :=
  if p.size=0 then ⟨-1,-1,hasW ws p⟩
  else ⟨(bt p ((p.size:Int) - 1)+159) % 256,(ps.findIdx (fun x=>decide (x=p.extract 0 (p.size - 1))):Int),hasW ws p⟩
def trieW (ws:List ByteArray):List S62:=(prefW ws).map (nodeW (prefW ws) ws)
end Go.Proofs.Ytghkbgmbbcaecaa.Q
namespace Go.Proofs.Ytghkbgmbbcaecaa.Q
open Go.RowKit Go.Sort Go.Proofs.YtghkbgmbbcaecaaW.PrintWords Go.Proofs.YtghkbgmbbcaecaaW.PrintLast Go.Proofs.YtghkbgmbbcaecaaW.PrintMore
set_option linter.unusedVariables false
theorem reps_scalar {α:Type} (enc:α→Value) (h1:∀ x,(enc x).oneCell'=true) (ps:List α):Reps (fun x cs=>cs=[enc x]) 1 ps (ps.map enc):=by
 refine ⟨by simp,fun j p h=>?_⟩
 obtain ⟨hj,rfl⟩:=List.getElem?_eq_some_iff.1 h
 apply List.ext_getElem
 ·simp;omega
 ·intro i h1 h2
  simp at h1
  have:i=0:=by omega
  subst this
  simp
theorem R_of_owns {w:World} {e base:Nat} {ok:Nat→Prop} {v:Value} {xs:List ByteArray} (h:w.ownsRow base e 1 v xs.length (xs.map Value.string)) (hok:∀ k,v.ownBlock=some k→ok k):Kd.R Kd.string e w base ok v xs :=
 ⟨hok,_,h,reps_scalar Value.string (fun _=>rfl) xs⟩
end Go.Proofs.Ytghkbgmbbcaecaa.Q
namespace Go.Proofs.Ytghkbgmbbcaecaa.Q
open Go.RowKit Go.Shelf Go.Sort Go.Proofs.YtghkbgmbbcaecaaW.PrintWords Go.Proofs.YtghkbgmbbcaecaaW.PrintLast Go.Proofs.YtghkbgmbbcaecaaW.PrintMore
set_option linter.unusedVariables false
attribute [local go_sem] Oper.semAt_some
theorem take_rd (zs:List ByteArray) (k:Nat) (h:k<zs.length):zs.take (k+1)=zs.take k ++ [rdOf ByteArray.empty zs (k:Int)]:=by
 rw [List.take_succ_eq_append_getElem h]
 simp [rdOf,h]
set_option maxRecDepth 100000 in
set_option maxHeartbeats 2000000 in
theorem values1_in (F:Fence) (n:Nat) (hf:F.fn 72) (hro:F.round=none) (hn:1≤n) (l Bs n₀ cap:Nat) (A:Option Addr) (zs:List ByteArray) (hreach:zs.length≤4398046511104) (J Jx:List ByteArray→World→Prop)
  (hY:∀ pre x W,J pre W→pre.length<zs.length→YieldAt F (n - 1) Try.prog l #[.string x] W fun e W' =>
   (e=.returned (.bool true)∧J (pre ++ [x]) W'∧Below n₀ W W')∨(e=.returned (.bool false)∧Jx (pre ++ [x]) W'))
  (W:World) (hBs:W.cell? ⟨Bs,0,none⟩=some (.slice A zs.length cap)) (hc:∀ W',Below n₀ W W'→Kd.C Kd.string W' A zs.length zs) (h0:J [] W) :
  CallsIn F n Try.prog 72 #[.func (.yield l) #[] #[],.pointer (some ⟨Bs,0,none⟩)] W fun e W'=>(∃ v,e=.returned v) ∧
   ((∃ ys,ys=zs∧J ys W')∨(∃ pre,pre <+: zs∧Jx pre W')):=by
 have HC:Zz (∀ W',Below n₀ W W'→Kd.C Kd.string W' A zs.length zs):=⟨hc⟩
 have HY:Zz (∀ pre x W,J pre W→pre.length<zs.length→YieldAt F (n - 1) Try.prog l #[.string x] W fun e W' =>
   (e=.returned (.bool true)∧J (pre ++ [x]) W'∧Below n₀ W W')∨(e=.returned (.bool false)∧Jx (pre ++ [x]) W')):=⟨hY⟩
 clear hc hY
 refine callsIn_of_wp Try.func72 rfl hf ?_ hro
 simp only [Try.ntmps72,List.size_toArray,List.length_cons,List.length_nil,Nat.reduceAdd,Nat.reduceSub,Array.replicate_succ,Array.replicate_zero,List.push_toArray,List.append_toArray,List.nil_append,List.cons_append]
 gi_wp2
 gi_loopw [7] (fun i wr=>∃ k:Nat,k≤zs.length∧i=.int .i64 k∧J (zs.take k) wr∧Below n₀ W wr)
  (fun i _=>zs.length - (intOf i).toNat)
 case atStart=>exact ⟨0,Nat.zero_le _,rfl,h0,Below.refl _ _⟩
 case round =>
  obtain ⟨k,hk,rfl,hJs,hnx⟩:=hrel
  by_cases hlt:k<zs.length
  ·obtain ⟨ad,e0,hx⟩:=Kd.at_string (HC.out wr hnx) (k:Int) (by omega) (by omega)
   cases e0
   simp only [Int.toNat_natCast] at hx
   obtain ⟨fn,tmps,assign,body,hy,hR⟩:=HY.out _ (rdOf ByteArray.empty zs (k:Int)) wr hJs (by rw [List.length_take];omega)
   gi_wp2
   refine hR.mono ?_
   rintro e W3 (⟨rfl,hJ3,hk3⟩|⟨rfl,hJx3⟩)
   ·gi_wp2
    go_roundw
    case rel=>exact ⟨k+1,by omega,by simp,by rw [take_rd zs k hlt];exact hJ3,hnx.trans hk3⟩
    case measure=>simp [intOf];omega
   ·gi_wp2
    refine bodyPost_ret (results_none rfl _ _ _) rfl ?_
    exact ⟨⟨_,rfl⟩,.inr ⟨_,by rw [← take_rd zs k hlt];exact List.take_prefix _ _,hJx3⟩⟩
  ·obtain rfl:k=zs.length:=by omega
   gi_wp2
   go_end0
   exact ⟨⟨_,rfl⟩,.inl ⟨_,List.take_length,hJs⟩⟩
theorem values_stops (F:Fence) (n:Nat) (hf:F.fn 72) (hro:F.round=none) (hn:1≤n) (Bs n₀ cap:Nat) (A:Option Addr) (zs:List ByteArray) (hreach:zs.length≤4398046511104) (w:World) (hBs:Bs<w.heap.size) (hn₀:n₀≤w.heap.size)
  (hc:w.cell? ⟨Bs,0,none⟩=some (.slice A zs.length cap)) (hI:∀ W',Below n₀ w W'→Kd.C Kd.string W' A zs.length zs) :
  SeqStopsK F n Try.prog 72 #[.pointer (some ⟨Bs,0,none⟩)] (fun x:ByteArray=>#[Value.string x]) (Below n₀) (fun ys=>ys=zs) (fun pre=>pre <+: zs) zs.length w:=fun l J Jx W hW _ _ hY h0=>by
 refine (values1_in F n hf hro hn l Bs n₀ cap A zs hreach J Jx hY W ((hW.cell (p:=⟨Bs,0,none⟩) hBs).trans hc) (fun W' hW'=>hI W' ((hW.mono hn₀).trans hW')) h0).mono ?_
 rintro e W' ⟨he,⟨ys,rfl,hj⟩|⟨pre,hp,hj⟩⟩
 ·exact ⟨he,.inl ⟨_,rfl,hj⟩⟩
 ·exact ⟨he,.inr ⟨_,hp,hj⟩⟩
theorem infoS:(Try.prog.info? 9).map (fun i=>(i.zero,i.size,i.bytes))=some (some (.string ⟨#[]⟩),1,16):=by kernel_rfl
set_option maxRecDepth 100000 in
set_option maxHeartbeats 2000000 in
theorem appendSeq_in (F:Fence) (n:Nat) (hf:F.fn 75) (hv:F.fn 72) (hro:F.round=none) (hn:3≤n) (Bs cap:Nat) (A:Option Addr) (zs:List ByteArray) (hreach:zs.length≤4398046511104) (w:World)
  (hc:w.cell? ⟨Bs,0,none⟩=some (.slice A zs.length cap)) (hC:Kd.C Kd.string w A zs.length zs) :
  CallsIn F n Try.prog 75 #[.slice none 0 0,.func (.func 72) #[] #[.pointer (some ⟨Bs,0,none⟩)]] w fun e W'=>∃ v,e=.returned v∧W'.ownsRow w.heap.size 9 1 v zs.length (zs.map Value.string)∧Below w.heap.size w W':=by
 have h1:1≤n:=by omega
 obtain ⟨i0,hi,hz0,hz1,hz2⟩:=info_parts infoS
 have hBl:Bs<w.heap.size:=World.block_lt_of_cell? w _ hc
 refine callsIn_of_wp_marks Try.func75 rfl hf ?_ hro
 simp only [Try.ntmps75,List.size_toArray,List.length_cons,List.length_nil,Nat.reduceAdd,Nat.reduceSub,Array.replicate_succ,Array.replicate_zero,List.push_toArray,List.append_toArray,List.nil_append,List.cons_append]
 gi_wp2
 have bO:=Boxed.new w 44 (.slice none 0 0)
 have hB0:Below w.heap.size w (w.alloc (.cells #[.slice none 0 0] 44)):=(Below.refl _ w).alloc (Nat.le_refl _) _
 refine wpIn_rangeFunc_ownG hro h1 (gf:=72) (lb:=#[.pointer (some ⟨Bs,0,none⟩)]) rfl hv (enters_of Try.func72 (by kernel_rfl) rfl)
  (values_stops F (n - 1) hv hro (by omega) Bs w.heap.size cap A zs hreach _ (by simp;omega) (by simp) ((hB0.cell (p:=⟨Bs,0,none⟩) hBl).trans hc) (fun W' hW'=>Kd.C_below hC (hB0.trans hW'))) belowK_t (belowK_b (by simp)) (Below.refl _ _) (fun _=>rfl)
  (fun pre W=>(∃ v,Boxed W w.heap.size 44 v∧W.ownsRow w.heap.size 9 1 v pre.length (pre.map Value.string)∧True)∧Below w.heap.size w W)
  (fun _ _ _=>False)
  (OwnFrom.and (Own.from (holdsRow_own w.heap.size w.heap.size 44 9 1 (fun pre:List ByteArray=>pre.length) (fun pre=>pre.map Value.string) (fun _ _=>True)) _) (ownFrom_below (Nat.le_refl _) (by simp)))
  (fun _ _ _ _ _ hs _ _=>hs)
  ⟨⟨_,bO,World.ownsRow_nil _ _ _ _,trivial⟩,hB0⟩
  (fun x=>{ tmps:=#[.slice none 0 0,.func (.func 72) #[] #[.pointer (some ⟨Bs,0,none⟩)],.pointer (some ⟨w.heap.size,0,none⟩),undef,.slice none 0 0,.string x,.func (.func 72) #[] #[.pointer (some ⟨Bs,0,none⟩)],.string x,undef,undef,undef,undef,undef],defers:=[] }) ?assign ?body ?done ?stop
 case assign =>
  intro l x W K hK
  gi_wp2
  exact hK
 case body =>
  rintro l pre x W ⟨⟨v,hv,hrow,_⟩,hB⟩ hlt
  have hc:=hv.cell
  gi_wp2_with (gi_at_builtin;refine wpListIn_append_own _ rfl _ _ 44 rfl w.heap.size 9 i0 (.string ⟨#[]⟩) 1 16 Try.underlying44 hi hz0 hz1 hz2 rfl (by decide) _ _ _ rfl (hrow.alloc _) ⟨W.heap.size,0,none⟩ 1 1 [.string x] rfl rfl (cell_one_new _ _ _) (by simp [Value.oneCell']) (by unfold maxLen;omega) (by omega) (by have:=hB.size;simp;omega) ?_;intro v' w1 hown' hgrow _;obtain ⟨g',cap',rfl⟩:=ownsRow_succ hown';obtain ⟨hv1,hv2,hr2,hk2,hb2⟩:=hv.appended (by decide) hrow hB.size (Nat.le_refl _) hown' hgrow;have hc1:=hv1.cell;have hf1:=hv1.frozen)
  exact ⟨hk2.from _,hb2,⟨_,hv2,by simpa using hr2,trivial⟩,hB.trans hb2⟩
 case done =>
  rintro D ys W hD rfl ⟨⟨v,hv,hrow,_⟩,hB⟩ hK
  have hc:=hv.cell
  gi_wp2
  refine ⟨by simp,.inl ⟨_,_,rfl,run_takeDeferred hK,?_⟩⟩
  exact ⟨_,results_tmp rfl _ _ _,v,rfl,ownsRow_putObj hrow _ hK rfl,hB.trans (belowK_b (w:=w) (Nat.le_refl _) W D _ _ (by simp at hD;omega) hK rfl rfl)⟩
 case stop =>
  rintro D c pre W _ _ h _
  exact h.elim
end Go.Proofs.Ytghkbgmbbcaecaa.Q
namespace Go.Proofs
open Go.Shelf
def Try.lSort_ren:Go.Shelf.Ren:=⟨fun|190=>71|125=>77|258=>76|128=>86|129=>87|302=>78|303=>79|304=>80|305=>81|306=>82|307=>83|308=>67|309=>84|310=>85|333=>88|329=>89|330=>90|334=>91|335=>92|336=>74|344=>93|n=>n,fun|31=>44|9=>9|3=>3|46=>94|0=>0|51=>106|53=>108|4=>4|183=>100|182=>99|131=>89|5=>5|218=>109|222=>113|228=>115|229=>116|n=>n,fun|n=>n⟩
theorem Try.lSort:Go.Proofs.Lays.n190 Try.prog Try.lSort_ren:={
  mixed:=by kernel_rfl
  f125:=Try.func77.trans (congrArg some (by kernel_rfl))
  f128:=Try.func86.trans (congrArg some (by kernel_rfl))
  f129:=Try.func87.trans (congrArg some (by kernel_rfl))
  f190:=Try.func71.trans (congrArg some (by kernel_rfl))
  f258:=Try.func76.trans (congrArg some (by kernel_rfl))
  f302:=Try.func78.trans (congrArg some (by kernel_rfl))
  f303:=Try.func79.trans (congrArg some (by kernel_rfl))
  f304:=Try.func80.trans (congrArg some (by kernel_rfl))
  f305:=Try.func81.trans (congrArg some (by kernel_rfl))
  f306:=Try.func82.trans (congrArg some (by kernel_rfl))
  f307:=Try.func83.trans (congrArg some (by kernel_rfl))
  f308:=Try.func67.trans (congrArg some (by kernel_rfl))
  f309:=Try.func84.trans (congrArg some (by kernel_rfl))
  f310:=Try.func85.trans (congrArg some (by kernel_rfl))
  f329:=Try.func89.trans (congrArg some (by kernel_rfl))
  f330:=Try.func90.trans (congrArg some (by kernel_rfl))
  f333:=Try.func88.trans (congrArg some (by kernel_rfl))
  f334:=Try.func91.trans (congrArg some (by kernel_rfl))
  f335:=Try.func92.trans (congrArg some (by kernel_rfl))
  f336:=Try.func74.trans (congrArg some (by kernel_rfl))
  f344:=Try.func93.trans (congrArg some (by kernel_rfl))
  t0:=Try.underlying0
  a0:=Try.isAgg0
  z0:=Try.sizeOf0
  v0:=Try.zeroValue0
  t3:=Try.underlying3
  a3:=Try.isAgg3
  z3:=Try.sizeOf3
  v3:=Try.zeroValue3
  t4:=Try.underlying4
  a4:=Try.isAgg4
  z4:=Try.sizeOf4
  v4:=Try.zeroValue4
  t5:=Try.underlying5
  a5:=Try.isAgg5
  z5:=Try.sizeOf5
  v5:=Try.zeroValue5
  t9:=Try.underlying9
  a9:=Try.isAgg9
  z9:=Try.sizeOf9
  v9:=Try.zeroValue9
  t31:=Try.underlying44
  a31:=Try.isAgg44
  z31:=Try.sizeOf44
  v31:=Try.zeroValue44
  t46:=Try.underlying94
  a46:=Try.isAgg94
  z46:=Try.sizeOf94
  v46:=Try.zeroValue94
  t51:=Try.underlying106
  a51:=Try.isAgg106
  z51:=Try.sizeOf106
  v51:=Try.zeroValue106
  t53:=Try.underlying108
  a53:=Try.isAgg108
  z53:=Try.sizeOf108
  v53:=Try.zeroValue108
  t131:=Try.underlying89
  a131:=Try.isAgg89
  z131:=Try.sizeOf89
  v131:=Try.zeroValue89
  t182:=Try.underlying99
  a182:=Try.isAgg99
  z182:=Try.sizeOf99
  v182:=Try.zeroValue99
  t183:=Try.underlying100
  a183:=Try.isAgg100
  z183:=Try.sizeOf100
  v183:=Try.zeroValue100
  t218:=Try.underlying109
  a218:=Try.isAgg109
  z218:=Try.sizeOf109
  v218:=Try.zeroValue109
  t222:=Try.underlying113
  a222:=Try.isAgg113
  z222:=Try.sizeOf113
  v222:=Try.zeroValue113
  t228:=Try.underlying115
  a228:=Try.isAgg115
  z228:=Try.sizeOf115
  v228:=Try.zeroValue115
  t229:=Try.underlying116
  a229:=Try.isAgg116
  z229:=Try.sizeOf116
  v229:=Try.zeroValue116 }
def Try.lCompact_ren:Go.Shelf.Ren:=⟨fun|194=>61|n=>n,fun|31=>44|9=>9|3=>3|4=>4|0=>0|n=>n,fun|n=>n⟩
theorem Try.lCompact:Go.Proofs.Lays.n194 Try.prog Try.lCompact_ren:={
  mixed:=by kernel_rfl
  f194:=Try.func61.trans (congrArg some (by kernel_rfl))
  t0:=Try.underlying0
  a0:=Try.isAgg0
  z0:=Try.sizeOf0
  v0:=Try.zeroValue0
  t3:=Try.underlying3
  a3:=Try.isAgg3
  z3:=Try.sizeOf3
  v3:=Try.zeroValue3
  t4:=Try.underlying4
  a4:=Try.isAgg4
  z4:=Try.sizeOf4
  v4:=Try.zeroValue4
  t9:=Try.underlying9
  a9:=Try.isAgg9
  z9:=Try.sizeOf9
  v9:=Try.zeroValue9
  t31:=Try.underlying44
  a31:=Try.isAgg44
  z31:=Try.sizeOf44
  v31:=Try.zeroValue44 }
end Go.Proofs
namespace Go.Proofs.Ytghkbgmbbcaecaa.Q
open Go.RowKit Go.Shelf Go.Sort Go.Proofs.YtghkbgmbbcaecaaW.PrintWords Go.Proofs.YtghkbgmbbcaecaaW.PrintLast Go.Proofs.YtghkbgmbbcaecaaW.PrintMore
set_option linter.unusedVariables false
theorem enc_lw (b:ByteArray):encStr (lw b)=.string b:=rfl
theorem enc_pw (l:List UInt8):Value.string (pw l)=encStr l:=rfl
theorem map_enc (zs:List ByteArray):zs.map Value.string=(zs.map lw).map encStr:=by simp [List.map_map,Function.comp_def,enc_lw]
theorem map_pw (ls:List (List UInt8)):(ls.map pw).map Value.string=ls.map encStr:=by simp [List.map_map,Function.comp_def,enc_pw]
theorem values_calls (A:Option Addr) (n c:Nat) (w:World) :
  Calls Try.prog 63 #[.slice A n c] w fun e w'=>e=.returned (.func (.func 72) #[] #[.pointer (some ⟨w.heap.size,0,none⟩)])∧w'=w.alloc (.cells #[.slice A n c] 44):=by
 go_enter Try.func63,Try.ntmps63
 go_wp2
 go_ret
 exact ⟨rfl,rfl⟩
def srt (zs:List ByteArray):List (List UInt8):=(zs.map lw).mergeSort fun x y=>decide (x≤y)
theorem srt_length (zs:List ByteArray):(srt zs).length=zs.length:=by simp [srt,List.length_mergeSort]
theorem sort_own (base:Nat) (v:Value) (zs:List ByteArray) (w:World) (h:w.ownsRow base 9 1 v zs.length (zs.map Value.string)) (hn:zs.length<4611686018427387904) :
  Calls Try.prog 71 #[v] w fun e w'=>e=.returned (.tuple #[])∧w'.ownsRow base 9 1 v (srt zs).length ((srt zs).map encStr)∧Below base w w':=by
 by_cases hv:v=.slice none 0 0
 ·subst hv
  have hz:zs=[]:=by
   rcases h.2 with ⟨_,h0⟩|⟨g,cap,cur,e0,_⟩
   ·exact List.eq_nil_of_length_eq_zero h0
   ·cases e0
  subst hz
  refine (Any.slices_Sort_string_none Try.lSort none 0 w).mono ?_
  rintro e w' ⟨rfl,rfl⟩
  exact ⟨rfl,by simpa [srt] using h,Below.refl _ _⟩
 ·have h':=h
  rw [map_enc] at h
  obtain ⟨g,cap,rfl,hbg,hgl,hncap,hcm,hlen,hH⟩:=Lib.holds_of_ownsRow h hv
  have hs:=Any.slices_Sort_string Try.lSort g 0 cap (zs.map lw) w hH hgl (by simpa using hn)
  rw [List.length_map] at hs
  refine hs.mono ?_
  rintro e w' ⟨rfl,n,os,rfl⟩
  rcases h.2 with ⟨e0,_⟩|⟨g',cap',cur,e0,hbase,hb,h1,h2,h3,h4⟩
  ·cases e0
  ·cases e0
   have:=ownsRow_sorted (n:=n) (os:=os) (ts:=srt zs) (ss:=zs.map lw) (by simp [srt_length]) hbase hb (by simpa using h1) h2 h3
   rw [List.length_map] at this
   exact ⟨rfl,by rw [srt_length];exact this,(Below.refl _ _).grown (grownBy_sorted _) (by omega) (fun j hj=>by cases hj;exact hbase)⟩
theorem compact_own (base:Nat) (v:Value) (ls:List (List UInt8)) (w:World) (h:w.ownsRow base 9 1 v ls.length (ls.map encStr)) (hn:ls.length<4611686018427387904) :
  Calls Try.prog 61 #[v] w fun e w'=>∃ v',e=.returned v'∧w'.ownsRow base 9 1 v' (Lib.compact ls).length ((Lib.compact ls).map encStr)∧Below base w w':=by
 by_cases hv:v=.slice none 0 0
 ·subst hv
  have hz:ls=[]:=by
   rcases h.2 with ⟨_,h0⟩|⟨g,cap,cur,e0,_⟩
   ·exact List.eq_nil_of_length_eq_zero h0
   ·cases e0
  subst hz
  refine (Any.slices_Compact_string_empty Try.lCompact none 0 w).mono ?_
  rintro e w' ⟨rfl,rfl⟩
  exact ⟨_,rfl,h,Below.refl _ _⟩
 ·obtain ⟨g,cap,rfl,hbg,hgl,hncap,hcm,hlen,hH⟩:=Lib.holds_of_ownsRow h hv
  refine (Any.slices_Compact_string Try.lCompact g 0 cap ls w hH (by omega) hncap).mono ?_
  rintro e w' ⟨rfl,q,rfl⟩
  have hle:=Lib.compact_length_le ls
  have hc2:=Lib.ownsRow_putRow (q:=q) (k:=(Lib.compact ls).length) (ys:=Lib.compact ls ++ List.replicate (ls.length - (Lib.compact ls).length) []) h (by simp;omega) hle
  rw [List.take_left] at hc2
  exact ⟨_,rfl,hc2,Lib.below_putRow (Below.refl _ _) hbg⟩
def Left (w:World) (ls:List (List UInt8)) (e:Ending) (w':World):Prop:=∃ v,e=.returned v∧w'.ownsRow w.heap.size 9 1 v ls.length (ls.map encStr)∧Below w.heap.size w w'
set_option maxHeartbeats 1000000 in
theorem sorted_calls (Bs cap:Nat) (A:Option Addr) (zs:List ByteArray) (hreach:zs.length≤4398046511104) (w:World)
  (hc:w.cell? ⟨Bs,0,none⟩=some (.slice A zs.length cap)) (hC:Kd.C Kd.string w A zs.length zs) :
  Calls Try.prog 62 #[.func (.func 72) #[] #[.pointer (some ⟨Bs,0,none⟩)]] w (Left w (srt zs)):=by
 have hA:=callsIn_wide.1 (appendSeq_in Fence.wide 3 trivial trivial rfl (by omega) Bs cap A zs hreach w hc hC)
 have hcol:Calls Try.prog 70 #[.func (.func 72) #[] #[.pointer (some ⟨Bs,0,none⟩)]] w fun e W'=>∃ v,e=.returned v∧W'.ownsRow w.heap.size 9 1 v zs.length (zs.map Value.string)∧Below w.heap.size w W':=by
  go_enter Try.func70,Try.ntmps70
  go_wp2_with (go_at_call 75;refine hA.mono ?_;rintro e w' ⟨v,rfl,hr,hb⟩)
  go_ret
  exact ⟨v,rfl,hr,hb⟩
 clear hA hc hC
 go_enter Try.func62,Try.ntmps62
 go_wp2_with (first
  | (go_at_call 70;refine hcol.mono ?_;rintro e w1 ⟨v,rfl,hr,hb⟩;have HR:=Zz.mk hr;have HB:=Zz.mk hb;clear hr hb)
  | (go_at_call 71;refine (sort_own _ v zs _ HR.out (by omega)).mono ?_;rintro e w2 ⟨rfl,hr2,hb2⟩;have HR2:=Zz.mk hr2;have HB2:=Zz.mk hb2;clear hr2 hb2))
 go_ret
 exact ⟨v,rfl,HR2.out,HB.out.trans HB2.out⟩
def impl_set.f (l0:List ByteArray):Option (List ByteArray):=if l0.length≤4398046511104 then some (setW l0) else none
set_option maxHeartbeats 1000000 in
theorem impl_set.calls (A0:Option Addr) (c0:Nat) (l0:List ByteArray) (r:List ByteArray) (w:World) (hr0:Kd.C Kd.string w A0 l0.length l0) (hc0:l0.length≤c0) (h:impl_set.f l0=some r) :
  Calls Try.prog 35 #[.slice A0 l0.length c0] w fun e w'=>∃ v0_:Value,e=.returned (v0_)∧Kd.R Kd.string 9 w' w.heap.size (fun _=>True) v0_ r∧Below w.heap.size w w':=by
 unfold impl_set.f at h
 split at h
 case isFalse=>cases h
 rename_i hn
 obtain rfl:=Option.some.inj h
 clear h
 have hB:Below w.heap.size w (w.alloc (.cells #[.slice A0 l0.length c0] 44)):=(Below.refl _ w).alloc (Nat.le_refl _) _
 have hS:=sorted_calls w.heap.size c0 A0 l0 hn (w.alloc (.cells #[.slice A0 l0.length c0] 44)) (by simp) (Kd.C_below hr0 hB)
 have HS:=Zz.mk hS
 have HB:=Zz.mk hB
 clear hS hB hr0
 go_enter Try.func35,Try.ntmps35
 go_wp2_with (first
  | (go_at_call 63;refine (values_calls _ _ _ _).mono ?_;rintro e w' ⟨rfl,rfl⟩)
  | (go_at_call 62;refine HS.out.mono ?_;rintro e w1 ⟨v,rfl,hr1,hb1⟩;have HR1:=Zz.mk hr1;have HB1:=Zz.mk hb1;clear hr1 hb1)
  | (go_at_call 61;refine (compact_own _ v (srt l0) _ HR1.out (by rw [srt_length];omega)).mono ?_;rintro e w2 ⟨v',rfl,hr2,hb2⟩;have HR2:=Zz.mk hr2;have HB2:=Zz.mk hb2;clear hr2 hb2))
 go_ret
 have hb1:=HB1.out
 have hb2:=HB2.out
 have hr2:=HR2.out
 rw [World.size_alloc] at hb1 hb2 hr2
 refine ⟨v',rfl,R_of_owns ?_ (fun _ _=>trivial),HB.out.trans ((hb1.trans hb2).mono (by omega))⟩
 have hm:(setW l0).map Value.string=(Lib.compact (srt l0)).map encStr:=map_pw _
 rw [hm]
 have hl:(setW l0).length=(Lib.compact (srt l0)).length:=by simp [setW,srt]
 rw [hl]
 exact own_weaken hr2 (by omega)
end Go.Proofs.Ytghkbgmbbcaecaa.Q
namespace Go.Proofs.Ytghkbgmbbcaecaa.Q
open Go.RowKit Go.Proofs.YtghkbgmbbcaecaaW.PrintWords
abbrev Ws:=List UInt8
theorem lw_pw (l:Ws):lw (pw l)=l:=rfl
theorem pw_lw (b:ByteArray):pw (lw b)=b:=rfl
theorem lw_inj {a b:ByteArray} (h:lw a=lw b):a=b:=by rw [← pw_lw a,h,pw_lw]
theorem mem_compact {x:Ws} {l:List Ws}:x ∈ Lib.compact l ↔ x ∈ l:=by
  unfold Lib.compact Lib.compactUpTo
  simp only [List.mem_map,List.mem_filter,List.mem_range]
  constructor
  · rintro ⟨j,⟨hj,_⟩,rfl⟩
    have:l.toArray[j]! = l[j]:=by simp [hj]
    rw [this];exact List.getElem_mem hj
  · intro hx
    obtain ⟨j,hj,hxj⟩:=List.getElem_of_mem hx
    -- the first place
    have hex:∃ i,i<l.length∧l.toArray[i]! = x∧∀ i',i'<i→l.toArray[i']! ≠ x:=by
      clear hx
      induction j using Nat.strongRecOn with
      | _ j ih =>
        by_cases h:∃ i',i'<j∧l.toArray[i']! = x
        · obtain ⟨i',h1,h2⟩:=h
          exact ih i' h1 (by omega) (by simpa [show i'<l.length by omega] using h2)
        · exact ⟨j,hj,by simp [hj,hxj],fun i' h1 h2=>h ⟨i',h1,h2⟩⟩
    obtain ⟨i,hi,hxi,hfirst⟩:=hex
    refine ⟨i,⟨hi,?_⟩,hxi⟩
    unfold Lib.keeps
    rw [decide_eq_true_iff]
    by_cases h0:i=0
    · exact .inl h0
    · refine .inr (fun e=>hfirst (i - 1) (by omega) ?_)
      rw [← e];exact hxi
theorem compact_strict {l:List Ws} (hs:l.Pairwise (·≤·)):(Lib.compact l).Pairwise (·<·):=by
  unfold Lib.compact Lib.compactUpTo
  rw [List.pairwise_map]
  have hr:((List.range l.length).filter (Lib.keeps l.toArray)).Pairwise (·<·):=List.pairwise_lt_range.filter _
  refine hr.imp_of_mem ?_
  intro i j hi hj hij
  simp only [List.mem_filter,List.mem_range] at hi hj
  obtain ⟨hj,hk⟩:=hj
  unfold Lib.keeps at hk
  rw [decide_eq_true_iff] at hk
  have hk2:l.toArray[j]! ≠ l.toArray[j - 1]! := by
    rcases hk with h|h
    · omega
    · exact h
  rw [List.pairwise_iff_getElem] at hs
  have e1:l.toArray[i]! = l[i]'(by omega):=by simp [show i<l.length by omega]
  have e2:l.toArray[j]! = l[j]'hj:=by simp [hj]
  have e3:l.toArray[j - 1]! = l[j - 1]'(by omega):=by simp [show j - 1<l.length by omega]
  rw [e2,e3] at hk2
  rw [e1,e2]
  have h1:l[j - 1]'(by omega)≤l[j]'hj:=hs (j - 1) j (by omega) hj (by omega)
  have h2:l[i]'(by omega)≤l[j - 1]'(by omega):=by
    by_cases e:i=j - 1
    · subst e;exact List.le_refl _
    · exact hs i (j - 1) (by omega) (by omega) (by omega)
  have h3:l[j - 1]'(by omega)<l[j]'hj:=by
    refine List.not_le.1 (fun h=>hk2 (List.le_antisymm h h1))
  exact List.lt_of_le_of_lt h2 h3
def SS (l:List ByteArray):Prop:=l.Pairwise fun a b=>lw a<lw b
theorem mem_setW {x:ByteArray} {l:List ByteArray}:x ∈ setW l ↔ x ∈ l:=by
  unfold setW
  rw [List.mem_map]
  constructor
  · rintro ⟨y,hy,rfl⟩
    rw [mem_compact,List.mem_mergeSort] at hy
    obtain ⟨z,hz,rfl⟩:=List.mem_map.1 hy
    rw [pw_lw];exact hz
  · intro hx
    exact ⟨lw x,by rw [mem_compact,List.mem_mergeSort];exact List.mem_map.2 ⟨x,hx,rfl⟩,pw_lw x⟩
theorem setW_ss (l:List ByteArray):SS (setW l):=by
  unfold SS setW
  rw [List.pairwise_map]
  have:((l.map lw).mergeSort fun x y=>decide (x≤y)).Pairwise (·≤·):=by
    have h:=List.pairwise_mergeSort (le:=fun x y:Ws=>decide (x≤y)) (fun a b c h1 h2=>by
      simp only [decide_eq_true_eq] at h1 h2 ⊢;exact List.le_trans h1 h2) (fun a b=>by
      simp only [Bool.or_eq_true,decide_eq_true_eq];exact List.le_total a b) (l.map lw)
    exact h.imp (fun h=>by simpa using h)
  exact (compact_strict this).imp (fun h=>by rw [lw_pw,lw_pw];exact h)
theorem ss_ext:∀ {a b:List ByteArray},SS a→SS b→(∀ x,x ∈ a ↔ x ∈ b)→a=b
  | [],[],_,_,_=>rfl
  | [],y :: b,_,_,h=>absurd ((h y).2 List.mem_cons_self) (by simp)
  | x :: a,[],_,_,h=>absurd ((h x).1 List.mem_cons_self) (by simp)
  | x :: a,y :: b,ha,hb,h=>by
    have ha':=List.pairwise_cons.1 ha
    have hb':=List.pairwise_cons.1 hb
    have hxy:x=y:=by
      rcases List.mem_cons.1 ((h x).1 List.mem_cons_self) with e|hx
      · exact e
      · rcases List.mem_cons.1 ((h y).2 List.mem_cons_self) with e|hy
        · exact e.symm
        · exact absurd (List.lt_trans (hb'.1 x hx) (ha'.1 y hy)) (List.lt_irrefl _)
    subst hxy
    congr 1
    refine ss_ext ha'.2 hb'.2 (fun z=>?_)
    constructor
    · intro hz
      rcases List.mem_cons.1 ((h z).1 (List.mem_cons_of_mem _ hz)) with e|h1
      · subst e;exact absurd (ha'.1 z hz) (List.lt_irrefl _)
      · exact h1
    · intro hz
      rcases List.mem_cons.1 ((h z).2 (List.mem_cons_of_mem _ hz)) with e|h1
      · subst e;exact absurd (hb'.1 z hz) (List.lt_irrefl _)
      · exact h1
theorem setW_of_ss {l:List ByteArray} (h:SS l):setW l=l:=ss_ext (setW_ss l) h (fun _=>mem_setW)
end Go.Proofs.Ytghkbgmbbcaecaa.Q
namespace Go.Proofs.Ytghkbgmbbcaecaa.Q
open Go.RowKit Go.Proofs.YtghkbgmbbcaecaaW.PrintWords Go.Proofs.YtghkbgmbbcaecaaW.PrintLast
theorem bl_eq (a b:ByteArray):Op.bytesLess a.toList b.toList=decide (lw a<lw b):=by
  rw [bytesLess_eq,Lib.toList_data,Lib.toList_data];rfl
theorem tl_eq (a b:ByteArray):a.toList=b.toList ↔ a=b:=by
  rw [Lib.toList_data,Lib.toList_data]
  exact ⟨fun h=>lw_inj h,fun h=>by rw [h]⟩
theorem less_pure (a b:ByteArray):cmp_Less_string.f a b=some (decide (lw a<lw b)):=by
  unfold cmp_Less_string.f cmp_isNaN_string.f
  simp [bl_eq]
theorem mid_wrap {i j:Int} (h0:0≤i) (h1:i≤j) (h2:j≤4398046511104):wrap64 ((IntKind.u64.wrap (wrap64 (i+j))) / 2)=(i+j) / 2:=by
  have e1:wrap64 (i+j)=i+j:=by unfold wrap64;omega
  have e2:IntKind.u64.wrap (i+j)=i+j:=by
    have:IntKind.u64.wrap (i+j)=(i+j) % 18446744073709551616:=by rfl
    rw [this];omega
  rw [e1,e2];unfold wrap64;omega
theorem next_wrap {i n:Int} (h0:0≤i) (h:i<n) (hn:n≤4398046511104):wrap64 (i+1)=i+1:=by unfold wrap64;omega
def atW (l:List ByteArray) (i:Int):Ws:=lw (rdOf ByteArray.empty l i)
def SW (l:List ByteArray):Prop:=l.Pairwise fun a b=>lw a≤lw b
theorem SW.at {l:List ByteArray} (h:SW l) {i j:Int} (h0:0≤i) (hij:i≤j) (hj:j<l.length):atW l i≤atW l j:=by
  unfold SW at h
  rw [List.pairwise_iff_getElem] at h
  by_cases e:i=j
  · subst e;exact List.le_refl _
  · have:=h i.toNat j.toNat (by omega) (by omega) (by omega)
    simp only [atW,rdOf]
    simpa [show i.toNat<l.length by omega,show j.toNat<l.length by omega] using this
theorem hasW_iff (l:List ByteArray) (x:ByteArray):hasW l x=true ↔ x ∈ l:=by
  simp [hasW]
theorem mem_at {l:List ByteArray} {x:ByteArray} (h:x ∈ l):∃ i:Int,0≤i∧i<l.length∧rdOf ByteArray.empty l i=x:=by
  obtain ⟨j,hj,rfl⟩:=List.getElem_of_mem h
  exact ⟨j,by omega,by omega,by simp [rdOf,hj]⟩
theorem at_mem {l:List ByteArray} {i:Int} (h0:0≤i) (h1:i<l.length):rdOf ByteArray.empty l i ∈ l:=by
  have:i.toNat<l.length:=by omega
  simp [rdOf,this]
theorem bs_loop (l:List ByteArray) (x:ByteArray) (hs:SW l) (hn:l.length≤4398046511104) (d:Nat):∀ (k:Nat) (i j:Int),0≤i→i≤j→j≤l.length→(j - i).toNat≤d→d<k →
    (∀ m:Int,0≤m→m<i→atW l m<lw x)→(∀ m:Int,j≤m→m<l.length→lw x≤atW l m) →
    ∃ r,slices_BinarySearch_string_string.l0 k l x (l.length:Int) i j=some (r,hasW l x)∧0≤r∧r≤l.length∧(∀ m:Int,0≤m→m<r→atW l m<lw x)∧(∀ m:Int,r≤m→m<l.length→lw x≤atW l m):=by
  induction d with
  | zero =>
    intro k i j h0 hij hj hd hk hlo hhi
    obtain ⟨k,rfl⟩:∃ m,k=m+1:=⟨k - 1,by omega⟩
    obtain rfl:i=j:=by omega
    refine ⟨i,?_,h0,hj,hlo,hhi⟩
    simp only [slices_BinarySearch_string_string.l0]
    rw [if_neg (by omega)]
    by_cases hi:i<l.length
    · rw [if_pos hi,if_pos h0,if_pos hi]
      by_cases e:(rdOf ByteArray.empty l i).toList=x.toList
      · rw [if_pos e]
        have:hasW l x=true:=(hasW_iff l x).2 ((tl_eq _ _).1 e ▸ at_mem h0 hi)
        rw [this]
      · rw [if_neg e]
        have:hasW l x=false:=by
          rw [← Bool.not_eq_true,hasW_iff]
          intro hm
          obtain ⟨m,hm0,hm1,rfl⟩:=mem_at hm
          by_cases hmi:m<i
          · exact List.lt_irrefl _ (hlo m hm0 hmi)
          · have h1:=hhi i (by omega) hi
            have h2:=hs.at h0 (by omega:i≤m) hm1
            exact e ((tl_eq _ _).2 (lw_inj (List.le_antisymm h2 h1)))
        rw [this]
        simp [slices_isNaN_string.f]
    · rw [if_neg hi]
      have:hasW l x=false:=by
        rw [← Bool.not_eq_true,hasW_iff]
        intro hm
        obtain ⟨m,hm0,hm1,rfl⟩:=mem_at hm
        exact List.lt_irrefl _ (hlo m hm0 (by omega))
      rw [this]
  | succ d ih =>
    intro k i j h0 hij hj hd hk hlo hhi
    by_cases hlt:i<j
    · obtain ⟨k,rfl⟩:∃ m,k=m+1:=⟨k - 1,by omega⟩
      simp only [slices_BinarySearch_string_string.l0]
      rw [if_pos hlt,mid_wrap h0 hij (by omega),if_pos (by omega),if_pos (by omega),less_pure]
      simp only [Option.bind_some]
      by_cases hl:lw (rdOf ByteArray.empty l ((i+j) / 2))<lw x
      · rw [if_pos (by simpa using hl),next_wrap (by omega) (by omega:(i+j) / 2<l.length) (by omega)]
        refine ih k _ j (by omega) (by omega) hj (by omega) (by omega) (fun m hm0 hm1=>?_) hhi
        exact List.lt_of_le_of_lt (hs.at hm0 (by omega:m≤(i+j) / 2) (by omega)) hl
      · rw [if_neg (by simpa using hl)]
        refine ih k i _ h0 (by omega) (by omega) (by omega) (by omega) hlo (fun m hm0 hm1=>?_)
        exact List.le_trans (List.not_lt.1 hl) (hs.at (by omega) hm0 hm1)
    · obtain ⟨r,h⟩:=ih k i j h0 hij hj (by omega) (by omega) hlo hhi
      exact ⟨r,h⟩
theorem bs_pure (l:List ByteArray) (x:ByteArray) (hs:SW l) (hn:l.length≤4398046511104) :
    ∃ k r,slices_BinarySearch_string_string.f k l x=some (r,hasW l x)∧0≤r∧r≤l.length∧(∀ m:Int,0≤m→m<r→atW l m<lw x)∧(∀ m:Int,r≤m→m<l.length→lw x≤atW l m):=by
  obtain ⟨r,h⟩:=bs_loop l x hs hn l.length (l.length+1) 0 l.length (by omega) (by omega) (by omega) (by omega) (by omega) (fun m h0 h1=>by omega) (fun m h0 h1=>by omega)
  exact ⟨_,r,h⟩
theorem SS.sw {l:List ByteArray} (h:SS l):SW l:=h.imp (fun h=>List.le_of_lt h)
end Go.Proofs.Ytghkbgmbbcaecaa.Q
namespace Go.Proofs.Ytghkbgmbbcaecaa.Q
open Go.RowKit Go.Proofs.YtghkbgmbbcaecaaW.PrintWords Go.Proofs.YtghkbgmbbcaecaaW.PrintLast
theorem lw_extract (b:ByteArray) (n:Nat):lw (b.extract 0 n)=(lw b).take n:=by
  unfold lw
  rw [ByteArray.data_extract,Array.toList_extract,List.extract_eq_take_drop]
  simp
theorem lw_length (b:ByteArray):(lw b).length=b.size:=by unfold lw;rw [Array.length_toList];rfl
theorem ext_ext (b:ByteArray) (n m:Nat) (h:m≤n):(b.extract 0 n).extract 0 m=b.extract 0 m:=lw_inj (by
  rw [lw_extract,lw_extract,lw_extract,List.take_take,Nat.min_eq_left h])
theorem ext_size (b:ByteArray) (n:Nat) (h:n≤b.size):(b.extract 0 n).size=n:=by rw [ByteArray.size_extract];omega
theorem mem_prefW {l:List ByteArray} {p:ByteArray}:p ∈ prefW l ↔ p=ByteArray.empty∨∃ w ∈ l,∃ j,j<w.size∧p=w.extract 0 (j+1):=by
  unfold prefW
  rw [mem_setW]
  unfold allPfx
  rw [List.mem_cons,List.mem_flatMap]
  refine or_congr Iff.rfl ⟨?_,?_⟩
  · rintro ⟨w,hw,h⟩
    obtain ⟨j,hj,rfl⟩:=List.mem_map.1 h
    exact ⟨w,hw,j,List.mem_range.1 hj,rfl⟩
  · rintro ⟨w,hw,j,hj,rfl⟩
    exact ⟨w,hw,List.mem_map.2 ⟨j,List.mem_range.2 hj,rfl⟩⟩
theorem prefW_ss (l:List ByteArray):SS (prefW l):=setW_ss _
theorem ext0 (b:ByteArray):b.extract 0 0=ByteArray.empty:=lw_inj (by rw [lw_extract];rfl)
theorem prefW_closed {l:List ByteArray} {p:ByteArray} (h:p ∈ prefW l):p.extract 0 (p.size - 1) ∈ prefW l:=by
  rcases mem_prefW.1 h with rfl|⟨w,hw,j,hj,rfl⟩
  · exact mem_prefW.2 (.inl (ext0 _))
  · rw [ext_size _ _ (by omega),Nat.add_sub_cancel,ext_ext _ _ _ (by omega)]
    cases j with
    | zero=>exact mem_prefW.2 (.inl (ext0 _))
    | succ j=>exact mem_prefW.2 (.inr ⟨w,hw,j,by omega,rfl⟩)
theorem take_lt (l:Ws) (n:Nat) (h:n<l.length):l.take n<l:=by
  have e:l=l.take n ++ l.drop n:=(List.take_append_drop n l).symm
  rcases hd:l.drop n with _|⟨x,r⟩
  · have:=congrArg List.length hd
    rw [List.length_drop] at this
    simp at this
    omega
  · rw [hd] at e
    have h2:∀ (a:Ws),a<a ++ x :: r:=fun a=>by
      induction a with
      | nil=>exact List.nil_lt_cons _ _
      | cons y a ih=>exact List.cons_lt_cons_iff.2 (.inr ⟨rfl,ih⟩)
    calc l.take n<l.take n ++ x :: r:=h2 _
      _=l:=e.symm
theorem cut_lt (p:ByteArray) (h:p.size ≠ 0):lw (p.extract 0 (p.size - 1))<lw p:=by
  rw [lw_extract]
  exact take_lt _ _ (by rw [lw_length];omega)
theorem rd_nat (ps:List ByteArray) {j:Nat} (h:j<ps.length):rdOf ByteArray.empty ps (j:Int)=ps[j]:=by simp [rdOf,h]
theorem ss_at {ps:List ByteArray} (h:SS ps) {i j:Nat} (hij:i<j) (hj:j<ps.length):lw (rdOf ByteArray.empty ps (i:Int))<lw (rdOf ByteArray.empty ps (j:Int)):=by
  rw [rd_nat ps (by omega),rd_nat ps hj]
  exact (List.pairwise_iff_getElem.1 h) i j (by omega) hj hij
theorem ss_idx {ps:List ByteArray} (h:SS ps) {i j:Nat} (hi:i<ps.length) (hj:j<ps.length) (hlt:lw (rdOf ByteArray.empty ps (i:Int))<lw (rdOf ByteArray.empty ps (j:Int))):i<j:=by
  rcases Nat.lt_trichotomy i j with h1|h1|h1
  · exact h1
  · subst h1;exact absurd hlt (List.lt_irrefl _)
  · exact absurd (List.lt_trans hlt (ss_at h h1 hi)) (List.lt_irrefl _)
theorem find_at {ps:List ByteArray} (h:SS ps) {j:Nat} (hj:j<ps.length) (x:ByteArray) (hx:rdOf ByteArray.empty ps (j:Int)=x):ps.findIdx (fun y=>decide (y=x))=j:=by
  have hp:(fun y=>decide (y=x)) ps[j]=true:=by rw [← hx,rd_nat ps hj];simp
  refine Nat.le_antisymm (Nat.le_of_not_lt fun hlt=>?_) (Nat.le_of_not_lt fun hlt=>?_)
  · exact absurd hp (by simpa using List.not_of_lt_findIdx hlt)
  · have hl:ps.findIdx (fun y=>decide (y=x))<ps.length:=Nat.lt_trans hlt hj
    have hq:=List.findIdx_getElem (p:=fun y=>decide (y=x)) (xs:=ps) (w:=hl)
    rw [decide_eq_true_iff] at hq
    have h2:=(List.pairwise_iff_getElem.1 h) _ j hl hj hlt
    rw [hq,← hx,rd_nat ps hj] at h2
    exact List.lt_irrefl _ h2
theorem cut_idx {l:List ByteArray} {k:Nat} (hk:k<(prefW l).length) {p:ByteArray} (hp:p=rdOf ByteArray.empty (prefW l) (k:Int)) (h0:p.size ≠ 0) :
    ∃ j,j<k∧rdOf ByteArray.empty (prefW l) (j:Int)=p.extract 0 (p.size - 1)∧(prefW l).findIdx (fun y=>decide (y=p.extract 0 (p.size - 1)))=j:=by
  have hm:p ∈ prefW l:=by rw [hp,rd_nat _ hk];exact List.getElem_mem hk
  obtain ⟨j,hj,e⟩:=List.getElem_of_mem (prefW_closed hm)
  have e':rdOf ByteArray.empty (prefW l) (j:Int)=p.extract 0 (p.size - 1):=by rw [rd_nat _ hj];exact e
  refine ⟨j,ss_idx (prefW_ss l) hj hk ?_,e',find_at (prefW_ss l) hj _ e'⟩
  rw [e',← hp]
  exact cut_lt p h0
end Go.Proofs.Ytghkbgmbbcaecaa.Q
namespace Go.Proofs.Ytghkbgmbbcaecaa.Q
open Go.RowKit Go.Shelf Go.Sort Go.WideMaps Go.Proofs.YtghkbgmbbcaecaaW.PrintWords Go.Proofs.YtghkbgmbbcaecaaW.PrintLast Go.Proofs.YtghkbgmbbcaecaaW.PrintMore
set_option linter.unusedVariables false
attribute [local go_sem] isSome_setCell
theorem pfx_succ (w:ByteArray) (n:Nat):pfx w (n+1)=pfx w n ++ [w.extract 0 (n+1)]:=by simp [pfx,List.range_succ]
theorem pfx_length (w:ByteArray) (n:Nat):(pfx w n).length=n:=by simp [pfx]
theorem allPfx_take (l:List ByteArray) (k:Nat) (h:k<l.length):allPfx (l.take (k+1))=allPfx (l.take k) ++ pfx (rdOf ByteArray.empty l (k:Int)) (rdOf ByteArray.empty l (k:Int)).size:=by
 rw [take_rd l k h]
 simp [allPfx]
theorem allPfx_le (l:List ByteArray) (k:Nat):(allPfx (l.take k)).length≤(allPfx l).length:=by
 have:allPfx l=allPfx (l.take k) ++ (l.drop k).flatMap fun w=>pfx w w.size:=by
  simp only [allPfx,List.cons_append]
  rw [← List.flatMap_append,List.take_append_drop]
 rw [this];simp
theorem size_le_allPfx (l:List ByteArray) (k:Nat) (h:k<l.length):(allPfx (l.take k)).length+(rdOf ByteArray.empty l (k:Int)).size≤(allPfx l).length:=by
 have h1:=allPfx_le l (k+1)
 rw [allPfx_take l k h,List.length_append,pfx_length] at h1
 omega
theorem pref_size {l:List ByteArray} {p:ByteArray} (h:p ∈ prefW l):p.size≤(allPfx l).length:=by
 unfold prefW at h
 rw [mem_setW] at h
 rcases List.mem_cons.1 h with e|h
 ·subst e;exact Nat.zero_le _
 ·obtain ⟨w,hw,hp⟩:=List.mem_flatMap.1 h
  obtain ⟨k,hk,rfl⟩:=List.getElem_of_mem hw
  have hs:=size_le_allPfx l k hk
  have e:rdOf ByteArray.empty l (k:Int)=l[k]:=by simp [rdOf,hk]
  rw [e] at hs
  obtain ⟨j,hj,rfl⟩:=List.mem_map.1 hp
  rw [ByteArray.size_extract]
  omega
structure Rows (base:Nat) (w0 wr:World) (v:Value) (xs:List ByteArray):Prop where
 own:wr.ownsRow base 9 1 v xs.length (xs.map Value.string)
 below:Below base w0 wr
theorem Rows.snoc {base:Nat} {w0 wr w1:World} {v v':Value} {xs:List ByteArray} {x:ByteArray} {n:Nat} (h:Rows base w0 wr v xs) (hb:base≤w0.heap.size) (hn:n=xs.length) (ho:w1.ownsRow base 9 1 v' (n+1) (xs.map Value.string ++ [.string x]))
  (hg:(wr.alloc (.cells #[.string x] 9)).grownBy w1 v.ownBlock):Rows base w0 w1 v' (xs ++ [x]):=by
 subst hn
 exact ⟨by simpa using ho,(h.below.alloc (Nat.le_trans hb h.below.size) _).grown hg (by have:=h.below.size;simp;omega) (fun k e=>(h.own.lt k e).1)⟩
theorem wf_nat (k:Nat) (h:k≤4294967296):(Lit.int .i64 (k:Int)).wf=true:=by
 have h1:IntKind.i64.min=-9223372036854775808:=by decide
 simp [Lit.wf,h1]
 omega
theorem setW_len (l:List ByteArray):(setW l).length≤l.length:=by
 unfold setW
 rw [List.length_map]
 exact Nat.le_trans (Lib.compact_length_le _) (by rw [List.length_mergeSort,List.length_map];exact Nat.le_refl _)
theorem prefW_len (l:List ByteArray):(prefW l).length≤(allPfx l).length:=setW_len _
abbrev TD:=DataW Unit
structure Nodes (l0 ps:List ByteArray) (base:Nat) (wA wr:World) (k:Nat):Prop where
 below:Below base wA wr
 map:∃ D:TD,wr.ownsMap Try.prog 9 (plainElem Try.prog 3) base k D∧Maps.IsMap D∧∀ j,j<k→D.atKey (.string (lw (rdOf ByteArray.empty ps (j:Int)))) (.lit (.int .i64 0))=.lit (.int .i64 j)
 box:∃ vn,wr.heap[base+1]?=some (.cells #[vn] 24 (0,0))∧Kd.R k62 62 wr (base+2) (fun _=>True) vn ((ps.take k).map (nodeW ps l0))
theorem grown_drew {w w2 w3:World} {b:Option Nat} (hg:w.grownBy w2 b) (hd:Drawn0 w2 w3):w.grownBy w3 b:=by
 obtain ⟨n,rfl⟩:=hd.out
 exact ⟨hg.os,hg.tape,hg.output,hg.size,hg.block⟩
theorem map_drew {w2 w3:World} {P:Program} {k:TypeId} {R:Value→Option (TD × List MemPlace)} {b n:Nat} {D:TD} (h:w2.ownsMap P k R b n D) (hd:Drawn0 w2 w3):w3.ownsMap P k R b n D:=by
 obtain ⟨m,rfl⟩:=hd.out
 exact h
theorem lt_of_heap {w:World} {g:Nat} {o:Obj} (h:w.heap[g]?=some o):g<w.heap.size:=(Array.getElem?_eq_some_iff.1 h).1
theorem box_heap {w w3:World} {g b:Nat} {o:Obj} (h:w.heap[g]?=some o) (hg:w.grownBy w3 (some b)) (hne:g ≠ b):w3.heap[g]?=some o:=(hg.block g (lt_of_heap h) (fun e=>hne (by injection e))).trans h
theorem box_cell {w:World} {g:Nat} {v:Value} {t:Nat} (h:w.heap[g]?=some (.cells #[v] t (0,0))):w.cell? ⟨g,0,none⟩=some v:=by simp [World.cell?,h]
theorem box_frozen {w:World} {g:Nat} {v:Value} {t:Nat} (h:w.heap[g]?=some (.cells #[v] t (0,0))):w.frozen? ⟨g,0,none⟩=false:=by simp [World.frozen?,h]
theorem strKeyed:Maps.Keyed Try.prog 9:=Maps.string_keyed Try.underlying9
theorem zint (W:World):(zeroValue 3).run Try.prog W=.ok (.int .i64 0) W:=by kernel_rfl
theorem node_root {ps ws:List ByteArray} {p:ByteArray} (h:p.size=0):nodeW ps ws p=⟨-1,-1,hasW ws p⟩:=by simp [nodeW,h]
theorem letter_eq (p:ByteArray) (h:p.size - 1<p.size):IntKind.i64.wrap (IntKind.u8.wrap (((p[p.size - 1]'h).toNat:Int) - 97))=(bt p ((p.size:Int) - 1)+159) % 256:=by
 have e:((p.size:Int) - 1).toNat=p.size - 1:=by omega
 have hb:bt p ((p.size:Int) - 1)=((p[p.size - 1]'h).toNat:Int):=by simp [bt,e,h]
 have e1:∀ x:Int,IntKind.u8.wrap x=x % 256:=fun x=>rfl
 rw [hb,e1,i64_w]
 have:=(p[p.size - 1]'h).toNat_lt
 unfold wrap64
 omega
theorem ownsMap_block {w w':World} {P:Program} {k:TypeId} {R:Value→Option (TD × List MemPlace)} {b n:Nat} {D:TD} (h:w.ownsMap P k R b n D) (e:w'.heap[b]?=w.heap[b]?):w'.ownsMap P k R b n D:=by
 obtain ⟨es,clock,hb,r⟩:=h
 exact ⟨es,clock,by rw [e];exact hb,r⟩
theorem node_cell (w:World) (cs:Array Value) (j:Nat) {t:Nat} {v:Value} (h:cs[j]?=some v):((w.alloc (.cells cs t)).drew).cell? ⟨w.heap.size,j,none⟩=some v:=by
 have e:(w.alloc (.cells cs t)).drew.heap[w.heap.size]?=some (.cells cs t (0,0)):=World.alloc_heap_new w _
 unfold World.cell?
 simp only [e,h]
 rfl
theorem grown_alloc {w w3:World} {b:Option Nat} (h:w.grownBy w3 b) (o:Obj):w.grownBy (w3.alloc o).drew b :=
 ⟨h.os,h.tape,h.output,Nat.le_trans h.size (by simp),fun k hk hne=>(Below.heap_alloc w3 o k (Nat.lt_of_lt_of_le hk h.size)).trans (h.block k hk hne)⟩
theorem Nodes.next {l0 ps:List ByteArray} {base k n cn:Nat} {wA wr w3 wx:World} {D:TD} {Ax:Option Addr} {u:Value} {p:ByteArray} {x:S62} (hb:base≤wA.heap.size) (h:Below base wA wr) (hG:wr.grownBy w3 (some base))
  (hM:w3.ownsMap Try.prog 9 (plainElem Try.prog 3) base (k+1) (D.put (.string (lw p)) (.lit (.int .i64 k))))
  (hD:Maps.IsMap D∧∀ j,j<k→D.atKey (.string (lw (rdOf ByteArray.empty ps (j:Int)))) (.lit (.int .i64 0))=.lit (.int .i64 j))
  (hk:k<ps.length) (hp:p=rdOf ByteArray.empty ps (k:Int)) (hS:SS ps) (hB:Below (base+2) w3 wx)
  (hn:n=k+1) (hR:Kd.R k62 62 wx (base+2) (fun _=>True) (.slice Ax n cn) ((ps.take k).map (nodeW ps l0) ++ [x])) (hH:wx.heap[base+1]?=some (.cells #[u] 24 (0,0))) (hx:x=nodeW ps l0 p) :
  Nodes l0 ps base wA (wx.setCell ⟨base+1,0,none⟩ (.slice Ax (k+1) cn)) (k+1):=by
 subst hn
 refine ⟨?_,⟨_,(ownsMap_block hM (hB.block base (by omega))).setCell (by simp) _,hD.1.put _ _,fun j hj=>?_⟩,⟨_,blk_put hH 0 _ rfl,?_⟩⟩
 ·have h1:Below base wA w3:=h.grown hG (Nat.le_trans hb h.size) (fun k e=>by injection e with e;omega)
  exact (h1.trans (hB.mono (by omega))).setCell (by simp) _
 ·by_cases e:j=k
  ·subst e
   rw [← hp]
   exact Maps.atKey_put_same hD.1 (by simp [WideAt.IsKeyLit]) _ _
  ·rw [Maps.atKey_put_other (fun he=>?_)]
   ·exact hD.2 j (by omega)
   ·injection he with he
    have:=ss_at hS (show j<k by omega) hk
    rw [he,← hp] at this
    exact List.lt_irrefl _ this
 ·have e:(ps.take (k+1)).map (nodeW ps l0)=(ps.take k).map (nodeW ps l0) ++ [x]:=by
   rw [take_rd ps k hk,List.map_append,hx,hp];rfl
  rw [e]
  exact Kd.R_mono (Kd.R_move (Kd.R_bound hR) (fun g hg=>Below.heap_setCell _ _ _ _ (by simp;omega))) (fun _ hg=>hg.1)
theorem size0_of {p:ByteArray} (h:(!p.toList.isEmpty)=false):p.size=0:=by
 rw [Lib.toList_data] at h
 have h2:p.data.toList=[]:=by simpa using h
 have:=lw_length p
 unfold lw at this
 rw [h2] at this
 exact this.symm
theorem node_cut {l0:List ByteArray} {k:Nat} {D:TD} {p:ByteArray} {L c:Int} {b:Bool} (hk:k<(prefW l0).length) (hp:p=rdOf ByteArray.empty (prefW l0) (k:Int)) (h0:p.size ≠ 0)
  (hD:Maps.IsMap D∧∀ j,j<k→D.atKey (.string (lw (rdOf ByteArray.empty (prefW l0) (j:Int)))) (.lit (.int .i64 0))=.lit (.int .i64 j))
  (hc:(D.put (.string (lw p)) (.lit (.int .i64 k))).atKey (.string (lw (p.extract 0 (p.size - 1)))) (.lit (.int .i64 0))=.lit (.int .i64 c)) (hL:L=(bt p ((p.size:Int) - 1)+159) % 256) (hb:b=hasW l0 p) :
  (⟨L,c,b⟩:S62)=nodeW (prefW l0) l0 p:=by
 obtain ⟨j,hj,hje,hjf⟩:=cut_idx hk hp h0
 rw [Maps.atKey_put_other (fun he=>by injection he with he;exact absurd (he ▸ cut_lt p h0) (List.lt_irrefl _)),← hje,hD.2 j hj] at hc
 injection hc with hc
 injection hc with _ hc
 unfold nodeW
 rw [if_neg h0,hL,hb,hjf,hc]
set_option maxHeartbeats 2000000 in
set_option maxRecDepth 100000 in
theorem impl_trieOf_walk (A0:Option Addr) (c0:Nat) (l0:List ByteArray) (w:World) (hr0:Kd.C Kd.string w A0 l0.length l0) (hc0:l0.length≤c0) (hn:(allPfx l0).length≤1073741824) (hl:l0.length≤1073741824) (hs:SW l0) :
  Calls Try.prog 36 #[.slice A0 l0.length c0] w fun e w'=>∃ v0_:Value,e=.returned (.agg #[v0_])∧Kd.R k62 62 w' w.heap.size (fun _=>True) v0_ (trieW l0)∧Below w.heap.size w w':=by
 have hw0:Below w.heap.size w (w.alloc (.cells #[.slice none 0 0] 24)):=(Below.refl _ w).alloc (Nat.le_refl _) _
 have HR0:Zz (∀ W,Below (w.heap.size+1) (w.alloc (.cells #[.slice none 0 0] 24)) W→Kd.C Kd.string W A0 l0.length l0):=⟨fun W h=>Kd.C_below hr0 (hw0.trans (h.mono (by omega)))⟩
 clear hr0
 have HW0:=Zz.mk hw0
 clear hw0
 have HN:=Zz.mk hn
 clear hn
 have HS0:=Zz.mk hs
 clear hs
 obtain ⟨i9,hi9,hz90,hz91,hz92⟩:=info_parts infoS
 go_enter Try.func36,Try.ntmps36
 go_wp2
 go_loopw [3,17] (fun v i wr=>∃ k:Nat,k≤l0.length∧i=.int .i64 k∧Zz (Rows (w.heap.size+1) (w.alloc (.cells #[.slice none 0 0] 24)) wr v (allPfx (l0.take k))))
  (fun _ i _=>l0.length - (intOf i).toNat)
 case atStart =>
  refine ⟨0,Nat.zero_le _,rfl,⟨⟨?_,?_⟩⟩⟩
  ·refine ⟨rfl,.inr ⟨w.heap.size+1,1,#[.string ⟨#[]⟩],rfl,Nat.le_refl _,?_,Nat.le_refl _,by unfold maxLen;omega,rfl,rfl⟩⟩
   have:=World.alloc_heap_new (w.alloc (.cells #[.slice none 0 0] 24)) (.cells #[.string ⟨#[]⟩] 9)
   rwa [World.size_alloc] at this
  ·exact (Below.refl _ _).alloc (by simp) _
 case round =>
  obtain ⟨k,hk,rfl,HS⟩:=hrel
  by_cases hlt:k<l0.length
  ·obtain ⟨ad,e0,hx⟩:=Kd.at_string (HR0.out wr HS.out.below) (k:Int) (by omega) (by omega)
   cases e0
   simp only [Int.toNat_natCast] at hx
   go_wp2
   have hsz:=size_le_allPfx l0 k hlt
   obtain ⟨wd,hwd⟩:∃ wd,wd=rdOf ByteArray.empty l0 (k:Int):=⟨_,rfl⟩
   rw [← hwd] at hsz hx ⊢
   have hN:=HN.out
   have HWD:=Zz.mk hwd
   clear hwd
   obtain ⟨wo,rfl⟩:∃ wo:World,wo=wr:=⟨_,rfl⟩
   go_loopw [3,23] (fun v i wr=>∃ n:Nat,n≤wd.size∧i=.int .i64 n∧Zz (Rows (w.heap.size+1) (w.alloc (.cells #[.slice none 0 0] 24)) wr v (allPfx (l0.take k) ++ pfx wd n)))
    (fun _ i _=>wd.size - (intOf i).toNat)
   case atStart=>exact ⟨0,Nat.zero_le _,rfl,⟨by simpa [pfx] using HS.out⟩⟩
   case round =>
    obtain ⟨n,hn,rfl,HT⟩:=hrel
    by_cases hlt2:n<wd.size
    ·have hown:=HT.out.own
     have hbel:=HT.out.below
     have hsz2:=hbel.size
     rw [World.size_alloc] at hsz2
     rw [List.length_append,pfx_length] at hown
     have Hb:=Zz.mk hbel
     clear hbel
     go_wp2_with (at_builtin;refine wpList_append_own _ rfl _ _ 44 rfl (w.heap.size+1) 9 i9 (.string ⟨#[]⟩) 1 16 Try.underlying44 hi9 hz90 hz91 hz92 rfl (by decide) _ _ _ rfl (hown.alloc _) ⟨wr.heap.size,0,none⟩ 1 1 [.string (wd.extract 0 (n+1))] rfl rfl (cell_one_new _ _ _) (by simp [Value.oneCell']) (by unfold maxLen;omega) (by omega) (by simp;omega) ?_;intro v' w1 hown' hgrow _;have Hg:=Zz.mk hgrow;clear hgrow;have Ho:=Zz.mk hown';clear hown' hown)
     go_roundw
     case rel=>exact ⟨n+1,by omega,by go_num,⟨by rw [pfx_succ,← List.append_assoc];exact HT.out.snoc (by simp) (by rw [List.length_append,pfx_length]) Ho.out Hg.out⟩⟩
     case measure=>simp [intOf];omega
    ·obtain rfl:n=wd.size:=by omega
     go_wp2
     go_roundw
     case rel=>exact ⟨k+1,by omega,by go_num,⟨by rw [allPfx_take l0 k hlt,← HWD.out];exact HT.out⟩⟩
     case measure=>simp [intOf];omega
  ·obtain rfl:k=l0.length:=by omega
   rw [List.take_length] at HS
   have hRp:=R_of_owns (ok:=fun _=>True) HS.out.own (fun _ _=>trivial)
   obtain ⟨As,cs,rfl⟩:=Kd.R_slice hRp
   have hset:=impl_set.calls As cs (allPfx l0) (prefW l0) wr (Kd.R_reads' hRp).2.2 (Kd.R_reads' hRp).2.1 (by unfold impl_set.f;rw [if_pos (by have:=HN.out;omega)];rfl)
   have HSET:=Zz.mk hset
   clear hset hRp
   have hmm:=@run_makeMap Try.prog
   go_wp2_with (go_at_call 35;refine HSET.out.mono ?_;rintro e w1 ⟨v0,rfl,hR1,hb1⟩;obtain ⟨A1,c1,rfl⟩:=Kd.R_slice hR1;have HR1:=Zz.mk hR1;have HB1:=Zz.mk hb1;clear hR1 hb1)
   have HCW:Zz (∀ W,Below w1.heap.size w1 W→Kd.C Kd.string W A0 l0.length l0):=⟨fun W hW=>by
    have h1:=HS.out.below
    have h2:=HB1.out
    have h3:=h1.size
    have h4:=h2.size
    rw [World.size_alloc] at h3
    exact HR0.out W (h1.trans ((h2.trans (hW.mono h4)).mono h3))⟩
   have hHEAD:Zz (Nodes l0 (prefW l0) w1.heap.size w1 ((w1.alloc (.map #[] 0)).alloc (.cells #[.slice none 0 0] 24)) 0):=⟨⟨((Below.refl _ w1).alloc (Nat.le_refl _) _).alloc (by simp) _,
    ⟨_,(World.ownsMap_made _ _ _ _).alloc _,Maps.isMap_empty,fun j hj=>absurd hj (Nat.not_lt_zero _)⟩,
    ⟨_,by have:=World.alloc_heap_new (w1.alloc (.map #[] 0)) (.cells #[.slice none 0 0] 24);rwa [World.size_alloc] at this,Kd.R_nil _ _ _ _ _⟩⟩⟩
   go_loopw [41] (fun i wr=>∃ k:Nat,k≤(prefW l0).length∧i=.int .i64 k∧Zz (Nodes l0 (prefW l0) w1.heap.size w1 wr k))
    (fun i _=>(prefW l0).length - (intOf i).toNat)
   case atStart=>exact ⟨0,Nat.zero_le _,rfl,hHEAD⟩
   case round =>
    clear hHEAD
    obtain ⟨k,hk,rfl,HT⟩:=hrel
    by_cases hlt3:k<(prefW l0).length
    ·have hbel:=HT.out.below
     obtain ⟨adp,ep,hxp⟩:=Kd.at_string (Kd.C_below (Kd.R_reads' HR1.out).2.2 hbel) (k:Int) (by omega) (by omega)
     cases ep
     simp only [Int.toNat_natCast] at hxp
     have hmem:rdOf ByteArray.empty (prefW l0) (k:Int) ∈ prefW l0:=at_mem (by omega) (by omega)
     have hpz:=pref_size hmem
     clear hmem
     obtain ⟨p,hp⟩:∃ p,p=rdOf ByteArray.empty (prefW l0) (k:Int):=⟨_,rfl⟩
     rw [← hp] at hxp hpz
     have HP:=Zz.mk hp
     clear hp
     have hN:=HN.out
     have hPL:=prefW_len l0
     have hkey:keyOf Try.prog 9 (.string p)=some (.string (lw p)):=keyOf_string_mk Try.underlying9 (by unfold maxLen;omega)
     have HKEY:=Zz.mk hkey
     obtain ⟨D,hown,hD,hat⟩:=HT.out.map
     have HD:Zz (Maps.IsMap D∧∀ j,j<k→D.atKey (.string (lw (rdOf ByteArray.empty (prefW l0) (j:Int)))) (.lit (.int .i64 0))=.lit (.int .i64 j)):=⟨hD,hat⟩
     clear hD hat
     obtain ⟨kb,rb,hbs,_⟩:=bs_pure l0 p HS0.out (by omega)
     have HBS:=Zz.mk hbs
     clear hbs
     obtain ⟨b,hb⟩:∃ b,b=hasW l0 p:=⟨_,rfl⟩
     have HBE:=Zz.mk hb
     rw [← hb] at HBS
     clear hb
     have HBEL:=Zz.mk hbel
     clear hbel hkey
     obtain ⟨vn,hvn,hRn⟩:=HT.out.box
     obtain ⟨An,cn,rfl⟩:=Kd.R_slice hRn
     have hlen:((prefW l0).take k |>.map (nodeW (prefW l0) l0)).length=k:=by simp;omega
     rw [hlen] at hRn hvn
     have HRN:=Zz.mk hRn
     have HVN:=Zz.mk hvn
     clear hRn hvn
     go_wp2_with (first
      | (at_mapUpdate;refine wpList_mapUpdate_own _ rfl _ _ _ 88 rfl 9 3 strKeyed Try.underlying88 _ _ k _ rfl hown (by unfold maxLen;omega) _ _ _ rfl rfl HKEY.out _ [] (plainElem_int Try.underlying3 (wf_nat k (by omega))) ?_;intro w2 hown2 hgrow2;have HO2:=Zz.mk hown2;have HG2:=Zz.mk hgrow2;clear hown2 hgrow2 hown)
      | (go_at_call 64;refine (slices_BinarySearch_string_string.calls kb A0 c0 l0 p rb b _ (HCW.out _ (HBEL.out.grown HG2.out HBEL.out.size (fun g e=>by injection e with e;omega))) hc0 HBS.out).mono ?_;rintro e w3 ⟨rfl,hd3⟩;have hg3:=grown_drew HG2.out hd3;have HO3:=Zz.mk (map_drew HO2.out hd3);have hBX:w3.cell? ⟨w1.heap.size+1,0,none⟩=some (.slice An k cn):=box_cell (box_heap HVN.out hg3 (by omega));have hSZ:w1.heap.size+1<w3.heap.size:=Nat.lt_of_lt_of_le (lt_of_heap HVN.out) hg3.size;have hRN3:Zz (Kd.R k62 62 w3 (w1.heap.size+2) (fun _=>True) (.slice An k cn) (((prefW l0).take k).map (nodeW (prefW l0) l0))):=⟨Kd.R_mono (Kd.R_move (Kd.R_bound HRN.out) (fun g hg=>hg3.block g hg.2.2.1 (fun e=>by injection e with e;have:=hg.2.1;omega))) (fun _ hg=>hg.1)⟩;have HG3:=Zz.mk hg3;clear hd3 hg3)
      | (at_builtin;refine Kd.R_append k62 (w0:=w3) (w1.heap.size+2) rfl _ _ 22 62 (.agg #[(.int .i64 0),(.int .i64 0),(.bool false)]) 24 rfl Try.underlying22 info62 rfl (by decide) (by omega) (.slice An k cn) (((prefW l0).take k).map (nodeW (prefW l0) l0)) (⟨-1,-1,b⟩:S62) [.int .i64 (-1),.int .i64 (-1),.bool b] (fun _=>True) (fun _=>False) rfl ?aX (k62_mkM _ _ _ (⟨-1,-1,b⟩:S62)) (fun _ hk=>hk.elim) (fun _ _=>trivial) ?aO ?aB ?aS ?aL ?_;(case aX=>simp [Act.eval]);(case aO=>exact Kd.R_alloc hRN3.out _);(case aB=>exact (Below.refl _ _).alloc (by omega) _);(case aS=>rw [World.size_alloc];omega);(case aL=>rw [hlen];omega);intro v1 wx hRx hBelx hgx hatx;have HRX:=Zz.mk hRx;have HBX:=Zz.mk hBelx;have HGX:=Zz.mk hgx;have hhx:wx.heap[w1.heap.size+1]?=some (.cells #[.slice An k cn] 24 (0,0)):=(hBelx.block _ (by omega)).trans (box_heap HVN.out HG3.out (by omega));have hbx:=box_cell hhx;have hfx:=box_frozen hhx;have HHX:=Zz.mk hhx;obtain ⟨Ax,cx,ex⟩:=Kd.R_slice hRx;subst ex;clear hRx hBelx hgx hatx hhx))
     case roundEnd =>
      have hp0:p.size=0:=size0_of (by assumption)
      exact ⟨⟨k+1,by omega,by push_cast;rfl,⟨Nodes.next (Nat.le_refl _) HBEL.out HG3.out HO3.out HD.out hlt3 HP.out (prefW_ss l0) HBX.out (by rw [List.length_append,hlen];rfl) HRX.out HHX.out (by rw [node_root hp0,HBE.out])⟩⟩,by simp [intOf];omega⟩
     rename_i hne
     have hm0:(0:Int)≤(p.size:Int) - 1:=by
      have h0:p.size ≠ 0:=fun e=>by
       have:=(lw_inj (by have:=lw_length p;rw [e] at this;rw [List.length_eq_zero_iff.1 this];rfl):p=ByteArray.empty)
       subst this
       exact absurd hne (by simp)
      omega
     have hm2:(p.size:Int) - 1≤(p.size:Int):=by omega
     have hm3:(1:Int)≤(p.size:Int):=by omega
     have hm4:1≤p.size:=by omega
     have hps:p.size - 1<p.size:=by omega
     have hwr:IntKind.i64.wrap ((p.size:Int) - 1)=(p.size:Int) - 1:=by rw [i64_w];unfold wrap64;omega
     have hm1:(p.size:Int) - 1<(p.size:Int):=by omega
     have hlk:∃ c:Int,(∀ W:World,W.ownsMap Try.prog 9 (plainElem Try.prog 3) w1.heap.size (k+1) (DataW.put D (Lit.string (lw p)) (DataW.lit (Lit.int IntKind.i64 k)))→(Instr.lookup 88 (.map (some w1.heap.size)) (.string (p.extract 0 (p.size - 1))) false).run Try.prog W=.ok (.int .i64 c) W)∧(DataW.put D (Lit.string (lw p)) (DataW.lit (Lit.int IntKind.i64 k))).atKey (.string (lw (p.extract 0 (p.size - 1)))) (.lit (.int .i64 0))=.lit (.int .i64 c)∧(Lit.int .i64 c).wf=true:=by
      have hky:=keyOf_string_mk (s:=p.extract 0 (p.size - 1)) Try.underlying9 (by unfold maxLen;rw [ByteArray.size_extract];omega)
      obtain ⟨c,_,hc,hcw⟩:=HO3.out.lookup_int strKeyed Try.underlying88 Try.underlying3 (zint w3) hky
      refine ⟨c,fun W hW=>?_,hc,hcw⟩
      obtain ⟨c',hr,hc',_⟩:=hW.lookup_int strKeyed Try.underlying88 Try.underlying3 (zint W) hky
      have e:=hc'.symm.trans hc
      injection e with e
      injection e with _ e
      rw [hr,e]
     obtain ⟨c,hlk,hc,hcw⟩:=hlk
     have HC:=Zz.mk hc
     clear hc
     go_region_held3 (fun w'=>(Instr.lookup 88 (.map (some w1.heap.size)) (.string (p.extract 0 (p.size - 1))) false).run Try.prog w'=.ok (.int .i64 c) w') ((refine hlk _ ?_;repeat (first|exact HO3.out|exact HO3.out.alloc _|refine World.ownsMap.setCell ?_ (by simp;omega) _|refine World.ownsMap.alloc ?_ _|refine World.ownsMap.drew ?_))) (fail)
     all_goals clear hlk
     all_goals (
      rename_i hh_
      clear hh_
      generalize hLe:IntKind.i64.wrap (IntKind.u8.wrap (((p[p.size - 1]'hps).toNat:Int) - 97))=L
      generalize hW3:(w3.alloc (Obj.cells #[Value.int IntKind.i64 L,Value.int IntKind.i64 c,Value.bool b] 62)).drew=W3
      have hN0:W3.cell? ⟨w3.heap.size,0,none⟩=some (.int .i64 L):=by rw [← hW3];exact node_cell w3 _ 0 rfl
      have hN1:W3.cell? ⟨w3.heap.size,1,none⟩=some (.int .i64 c):=by rw [← hW3];exact node_cell w3 _ 1 rfl
      have hN2:W3.cell? ⟨w3.heap.size,2,none⟩=some (.bool b):=by rw [← hW3];exact node_cell w3 _ 2 rfl
      have hWS:W3.heap.size=w3.heap.size+1:=by rw [← hW3];simp
      have HGW:Zz (wr.grownBy W3 (some w1.heap.size)):=⟨by rw [← hW3];exact grown_alloc HG3.out _⟩
      have HMW:Zz (W3.ownsMap Try.prog 9 (plainElem Try.prog 3) w1.heap.size (k+1) (D.put (.string (lw p)) (.lit (.int .i64 k)))):=⟨by rw [← hW3];exact (HO3.out.alloc _).drew⟩
      have HRW:Zz (Kd.R k62 62 W3 (w1.heap.size+2) (fun _=>True) (.slice An k cn) (((prefW l0).take k).map (nodeW (prefW l0) l0))):=⟨by rw [← hW3];exact Kd.R_drew (Kd.R_alloc hRN3.out _)⟩
      have hbW:W3.cell? ⟨w1.heap.size+1,0,none⟩=some (.slice An k cn):=box_cell (box_heap HVN.out HGW.out (by omega))
      have HLE:=Zz.mk hLe
      clear hLe hW3)
     all_goals (go_wp2_with (at_builtin;refine Kd.R_append k62 (w0:=W3) (w1.heap.size+2) rfl _ _ 22 62 (.agg #[(.int .i64 0),(.int .i64 0),(.bool false)]) 24 rfl Try.underlying22 info62 rfl (by decide) (by omega) (.slice An k cn) (((prefW l0).take k).map (nodeW (prefW l0) l0)) (⟨L,c,b⟩:S62) [.int .i64 (L),.int .i64 c,.bool b] (fun _=>True) (fun _=>False) rfl ?aX (k62_mkM _ _ _ (⟨L,c,b⟩:S62)) (fun _ hk=>hk.elim) (fun _ _=>trivial) ?aO ?aB ?aS ?aL ?_;(case aX=>simp [Act.eval]);(case aO=>exact HRW.out);(case aB=>exact Below.refl _ _);(case aS=>omega);(case aL=>rw [hlen];omega);intro v1 wx hRx hBelx hgx hatx;have HRX:=Zz.mk hRx;have HBX:=Zz.mk hBelx;have HGX:=Zz.mk hgx;have hhx:wx.heap[w1.heap.size+1]?=some (.cells #[.slice An k cn] 24 (0,0)):=(hBelx.block _ (by omega)).trans (box_heap HVN.out HGW.out (by omega));have hbx:=box_cell hhx;have hfx:=box_frozen hhx;have HHX:=Zz.mk hhx;obtain ⟨Ax,cx,ex⟩:=Kd.R_slice hRx;subst ex;clear hRx hBelx hgx hatx hhx))
     all_goals (exact ⟨⟨k+1,by omega,by push_cast;rfl,⟨Nodes.next (Nat.le_refl _) HBEL.out HGW.out HMW.out HD.out hlt3 HP.out (prefW_ss l0) HBX.out (by rw [List.length_append,hlen];rfl) HRX.out HHX.out (node_cut hlt3 HP.out (by omega) HD.out HC.out (by rw [← HLE.out];exact letter_eq p hps) HBE.out)⟩⟩,by simp [intOf];omega⟩)
    ·obtain rfl:k=(prefW l0).length:=by omega
     obtain ⟨vn,hvn,hRn⟩:=HT.out.box
     obtain ⟨An,cn,rfl⟩:=Kd.R_slice hRn
     rw [List.take_length] at hRn hvn
     have hbx:=box_cell hvn
     have hbel:=HT.out.below
     have h1:=HS.out.below
     have h2:=HB1.out
     have h3:=h1.size
     have h4:=h2.size
     rw [World.size_alloc] at h3
     have hbig:=h1.trans ((h2.trans (hbel.mono h4)).mono h3)
     have hrs:wr.heap[w.heap.size]?=some (.cells #[.slice none 0 0] 24 (0,0)):=(hbig.block w.heap.size (by omega)).trans (World.alloc_heap_new w _)
     have hrc:=box_cell hrs
     have hrf:=box_frozen hrs
     have hne:w1.heap.size+1 ≠ w.heap.size:=by omega
     have hR2:Kd.R k62 62 (wr.setCell ⟨w.heap.size,0,none⟩ (.slice An ((prefW l0).map (nodeW (prefW l0) l0)).length cn)) w.heap.size (fun _=>True) (.slice An ((prefW l0).map (nodeW (prefW l0) l0)).length cn) (trieW l0) :=
      Kd.R_lower (Kd.R_mono (Kd.R_move (Kd.R_bound hRn) (fun g hg=>Below.heap_setCell _ _ _ _ (by have:=hg.2.1;simp;omega))) (fun _ hg=>hg.1)) (by omega)
     have hB2:Below w.heap.size w (wr.setCell ⟨w.heap.size,0,none⟩ (.slice An ((prefW l0).map (nodeW (prefW l0) l0)).length cn)):=(HW0.out.trans (hbig.mono (by omega))).setCell (Nat.le_refl _) _
     have hln:((prefW l0).map (nodeW (prefW l0) l0)).length=(prefW l0).length:=List.length_map _
     have hrs2:(wr.setCell ⟨w.heap.size,0,none⟩ (.slice An ((prefW l0).map (nodeW (prefW l0) l0)).length cn)).heap[w.heap.size]?=some (.cells #[.slice An ((prefW l0).map (nodeW (prefW l0) l0)).length cn] 24 (0,0)):=blk_put hrs 0 _ rfl
     rw [hln] at hR2 hB2 hbx hrs2
     have HPOST:=Zz.mk (And.intro hR2 hB2)
     clear hRn hvn hbel hbig hrs h1 h2 h3 h4 hR2 hB2
     have HRS:=Zz.mk hrs2
     clear hrs2
     go_wp2
     (try simp only [Exit.inBlock,Exit.then])
     refine bodyPost_ret (results_cell_row rfl _ _ w.heap.size 24 #[.slice An (prefW l0).length cn] (0,0) _ rfl HRS.out Try.underlying24 rfl (by kernel_rfl)) rfl ?_
     exact ⟨_,rfl,HPOST.out.1,HPOST.out.2⟩
def okTrieOf (l0:List ByteArray):Bool:=decide ((allPfx l0).length≤1073741824) && decide (l0.length≤1073741824) && decide (l0.Pairwise fun a b=>lw a≤lw b)
def impl_trieOf.f (l0:List ByteArray):Option (List S62):=if okTrieOf l0=true then some (trieW l0) else none
theorem impl_trieOf.calls (A0:Option Addr) (c0:Nat) (l0:List ByteArray) (r:List S62) (w:World) (hr0:Kd.C Kd.string w A0 l0.length l0) (hc0:l0.length≤c0) (h:impl_trieOf.f l0=some r) :
  Calls Try.prog 36 #[.slice A0 l0.length c0] w fun e w'=>∃ v0_:Value,e=.returned (.agg #[v0_])∧Kd.R k62 62 w' w.heap.size (fun _=>True) v0_ r∧Below w.heap.size w w':=by
 unfold impl_trieOf.f at h
 split at h
 case isFalse=>cases h
 rename_i hk
 obtain rfl:=Option.some.inj h
 simp only [okTrieOf,Bool.and_eq_true,decide_eq_true_eq] at hk
 exact impl_trieOf_walk A0 c0 l0 w hr0 hc0 hk.1.1 hk.1.2 hk.2
end Go.Proofs.Ytghkbgmbbcaecaa.Q
namespace Go.Proofs.Ytghkbgmbbcaecaa.Q
open Go.RowKit Go.Proofs.YtghkbgmbbcaecaaW.PrintWords Go.Proofs.YtghkbgmbbcaecaaW.PrintLast Go.Proofs.YtghkbgmbbcaecaaW.PrintMore
attribute [local go_sem] run_field_23 run_field_24 run_field_31 run_field_32 run_field_35 run_field_36 isSome_setCell max2_int min2_int max_two min_two max_three min_three max_four min_four   -- for this text's walks alone
set_option linter.unusedVariables false
set_option linter.unusedSimpArgs false
def laws_eqNode.f (a0_0:Int) (a0_1:Int) (a0_2:Bool) (a1_0:Int) (a1_1:Int) (a1_2:Bool):Option (Bool):=if a0_0=a1_0 then (if a0_1=a1_1 then (if (a0_2 != a1_2)=true then (some false) else (some true)) else (some false)) else (some false)
set_option maxHeartbeats 8000000 in
set_option maxRecDepth 100000 in
theorem laws_eqNode.calls (a0_0:Int) (a0_1:Int) (a0_2:Bool) (a1_0:Int) (a1_1:Int) (a1_2:Bool) (r:Bool) (w:World) (h:laws_eqNode.f a0_0 a0_1 a0_2 a1_0 a1_1 a1_2=some r) :
  Calls Try.prog 39 #[.agg #[.int .i64 a0_0,.int .i64 a0_1,.bool a0_2],.agg #[.int .i64 a1_0,.int .i64 a1_1,.bool a1_2]] w fun e w'=>e=.returned (.bool r)∧Below w.heap.size w w':=by
 have hu62:=Try.underlying62
 have HB:=Zz.mk (Below.refl w.heap.size w)
 have H:(if a0_0=a1_0 then (if a0_1=a1_1 then (if (a0_2 != a1_2)=true then (some false) else (some true)) else (some false)) else (some false))=some r:=h
 clear h
 by_cases c3:a0_0=a1_0
 ·rw [if_pos c3] at H
  have c3b0:(a0_0 == a1_0)=true:=beq_iff_eq.mpr c3
  have c3b1:(a0_0 != a1_0)=false:=bne_eq_false_iff_eq.mpr c3
  clear c3
  by_cases c4:a0_1=a1_1
  ·rw [if_pos c4] at H
   have c4b0:(a0_1 == a1_1)=true:=beq_iff_eq.mpr c4
   have c4b1:(a0_1 != a1_1)=false:=bne_eq_false_iff_eq.mpr c4
   clear c4
   by_cases c5:(a0_2 != a1_2)=true
   ·rw [if_pos c5] at H
    have c5b0:(a0_2 != a1_2)=true:=c5
    (try (have c5b1:decide (a0_2=a1_2)=false:=by simpa using c5))
    (try (have c5b2:(a0_2 == a1_2)=false:=by simpa using c5))
    (try (have c5b3:¬ (a0_2=a1_2):=by simpa using c5))
    clear c5
    obtain rfl:=Option.some.inj H
    go_enter Try.func39,Try.ntmps39
    go_wp2_with (first|((with_reducible refine gate_dst (N:=2) rfl ?_);refine box_event ?hg (N:=2) ?hd (cs:=#[.int .i64 a0_0,.int .i64 a0_1,.bool a0_2]) (t:=62) ?hr ?_;(case hd=>rfl);(case hg=>rfl);(case hr=>first|(go_simp;done)|(go_simp;rfl));intro gb163 hg w6 hbox hb;have n0_:=Zz.mk (qP (by repeat (first|(with_reducible first|exact HB.out|apply qA|apply qN|apply q1_)|exact HB.out)) hb);have n1_:=Zz.mk (hbox);have n2_:=Zz.mk ((by rw [hg];exact (qZ (by repeat (first|(with_reducible first|exact HB.out|apply qA|apply qN|apply q1_)|exact HB.out))):w.heap.size≤gb163));have n3_:=Zz.mk ((by rw [hg];exact (qZ (by repeat (first|(with_reducible first|exact HB.out|apply qA|apply qN|apply q1_)|exact HB.out))):w.heap.size≤gb163));clear HB;have HB:=n0_;have BK163:=n1_;have GW163:=n2_;have GE163:=n3_;clear n0_ n1_ n2_ n3_;clear hb hbox hg)|((with_reducible refine gate_dst (N:=3) rfl ?_);refine box_event ?hg (N:=3) ?hd (cs:=#[.int .i64 a1_0,.int .i64 a1_1,.bool a1_2]) (t:=62) ?hr ?_;(case hd=>rfl);(case hg=>rfl);(case hr=>first|(go_simp;done)|(go_simp;rfl));intro gb164 hg w7 hbox hb;have n0_:=Zz.mk (bB (g:=gb163) (o:=.cells #[.int .i64 a0_0,.int .i64 a0_1,.bool a0_2] 62 (0,0)) (by (with_reducible repeat first|apply bN|apply bD|apply bA);exact BK163.out) hb);have n1_:=Zz.mk (qP (by repeat (first|(with_reducible first|exact HB.out|apply qA|apply qN|apply q1_|refine qS ?_ GE163.out)|exact HB.out)) hb);have n2_:=Zz.mk (hbox);have n3_:=Zz.mk ((by rw [hg];exact (qZ (by repeat (first|(with_reducible first|exact HB.out|apply qA|apply qN|apply q1_|refine qS ?_ GE163.out)|exact HB.out))):w.heap.size≤gb164));have n4_:=Zz.mk ((by rw [hg];exact (qZ (by repeat (first|(with_reducible first|exact HB.out|apply qA|apply qN|apply q1_|refine qS ?_ GE163.out)|exact HB.out))):w.heap.size≤gb164));have n5_:=Zz.mk ((by rw [hg];exact Nat.ne_of_lt (blk_lt (g:=gb163) (o:=.cells #[.int .i64 a0_0,.int .i64 a0_1,.bool a0_2] 62 (0,0)) (by (with_reducible repeat first|apply bN|apply bD|apply bA);exact BK163.out)):gb163 ≠ gb164));have n6_:=Zz.mk ((by rw [hg];exact Nat.ne_of_gt (blk_lt (g:=gb163) (o:=.cells #[.int .i64 a0_0,.int .i64 a0_1,.bool a0_2] 62 (0,0)) (by (with_reducible repeat first|apply bN|apply bD|apply bA);exact BK163.out)):gb164 ≠ gb163));clear BK163;clear HB;have BK163:=n0_;have HB:=n1_;have BK164:=n2_;have GW164:=n3_;have GE164:=n4_;have NB163_164:=n5_;have NB164_163:=n6_;clear n0_ n1_ n2_ n3_ n4_ n5_ n6_;clear hb hbox hg;have hnb8:=NB163_164.out;have hnc8:=NB164_163.out;have hcz9_0:w7.cell? ⟨gb163,0,none⟩=some (.int .i64 a0_0):=(bC BK163.out 0).trans rfl;have hcz9_1:w7.cell? ⟨gb163,1,none⟩=some (.int .i64 a0_1):=(bC BK163.out 1).trans rfl;have hcz9_2:w7.cell? ⟨gb163,2,none⟩=some (.bool a0_2):=(bC BK163.out 2).trans rfl;have hfz9_0:=bF BK163.out 0;have hfz9_1:=bF BK163.out 1;have hfz9_2:=bF BK163.out 2;have hcz10_0:w7.cell? ⟨gb164,0,none⟩=some (.int .i64 a1_0):=(bC BK164.out 0).trans rfl;have hcz10_1:w7.cell? ⟨gb164,1,none⟩=some (.int .i64 a1_1):=(bC BK164.out 1).trans rfl;have hcz10_2:w7.cell? ⟨gb164,2,none⟩=some (.bool a1_2):=(bC BK164.out 2).trans rfl;have hfz10_0:=bF BK164.out 0;have hfz10_1:=bF BK164.out 1;have hfz10_2:=bF BK164.out 2))
    go_ret
    exact ⟨by first|rfl|(simp [errW_none,errW_some] <;> rfl)|(simp [*,errW_none,errW_some] <;> rfl),by repeat (first|(with_reducible first|exact HB.out|apply qA|apply qN|apply q1_|refine qS ?_ GE163.out|refine qS ?_ GE164.out)|exact HB.out)⟩
   ·rw [if_neg c5] at H
    have c5b0:(a0_2 != a1_2)=false:=by simpa using c5
    (try (have c5b1:decide (a0_2=a1_2)=true:=by simpa using c5))
    (try (have c5b2:(a0_2 == a1_2)=true:=by simpa using c5))
    clear c5
    obtain rfl:=Option.some.inj H
    go_enter Try.func39,Try.ntmps39
    go_wp2_with (first|((with_reducible refine gate_dst (N:=2) rfl ?_);refine box_event ?hg (N:=2) ?hd (cs:=#[.int .i64 a0_0,.int .i64 a0_1,.bool a0_2]) (t:=62) ?hr ?_;(case hd=>rfl);(case hg=>rfl);(case hr=>first|(go_simp;done)|(go_simp;rfl));intro gb163 hg w11 hbox hb;have n0_:=Zz.mk (qP (by repeat (first|(with_reducible first|exact HB.out|apply qA|apply qN|apply q1_)|exact HB.out)) hb);have n1_:=Zz.mk (hbox);have n2_:=Zz.mk ((by rw [hg];exact (qZ (by repeat (first|(with_reducible first|exact HB.out|apply qA|apply qN|apply q1_)|exact HB.out))):w.heap.size≤gb163));have n3_:=Zz.mk ((by rw [hg];exact (qZ (by repeat (first|(with_reducible first|exact HB.out|apply qA|apply qN|apply q1_)|exact HB.out))):w.heap.size≤gb163));clear HB;have HB:=n0_;have BK163:=n1_;have GW163:=n2_;have GE163:=n3_;clear n0_ n1_ n2_ n3_;clear hb hbox hg)|((with_reducible refine gate_dst (N:=3) rfl ?_);refine box_event ?hg (N:=3) ?hd (cs:=#[.int .i64 a1_0,.int .i64 a1_1,.bool a1_2]) (t:=62) ?hr ?_;(case hd=>rfl);(case hg=>rfl);(case hr=>first|(go_simp;done)|(go_simp;rfl));intro gb164 hg w12 hbox hb;have n0_:=Zz.mk (bB (g:=gb163) (o:=.cells #[.int .i64 a0_0,.int .i64 a0_1,.bool a0_2] 62 (0,0)) (by (with_reducible repeat first|apply bN|apply bD|apply bA);exact BK163.out) hb);have n1_:=Zz.mk (qP (by repeat (first|(with_reducible first|exact HB.out|apply qA|apply qN|apply q1_|refine qS ?_ GE163.out)|exact HB.out)) hb);have n2_:=Zz.mk (hbox);have n3_:=Zz.mk ((by rw [hg];exact (qZ (by repeat (first|(with_reducible first|exact HB.out|apply qA|apply qN|apply q1_|refine qS ?_ GE163.out)|exact HB.out))):w.heap.size≤gb164));have n4_:=Zz.mk ((by rw [hg];exact (qZ (by repeat (first|(with_reducible first|exact HB.out|apply qA|apply qN|apply q1_|refine qS ?_ GE163.out)|exact HB.out))):w.heap.size≤gb164));have n5_:=Zz.mk ((by rw [hg];exact Nat.ne_of_lt (blk_lt (g:=gb163) (o:=.cells #[.int .i64 a0_0,.int .i64 a0_1,.bool a0_2] 62 (0,0)) (by (with_reducible repeat first|apply bN|apply bD|apply bA);exact BK163.out)):gb163 ≠ gb164));have n6_:=Zz.mk ((by rw [hg];exact Nat.ne_of_gt (blk_lt (g:=gb163) (o:=.cells #[.int .i64 a0_0,.int .i64 a0_1,.bool a0_2] 62 (0,0)) (by (with_reducible repeat first|apply bN|apply bD|apply bA);exact BK163.out)):gb164 ≠ gb163));clear BK163;clear HB;have BK163:=n0_;have HB:=n1_;have BK164:=n2_;have GW164:=n3_;have GE164:=n4_;have NB163_164:=n5_;have NB164_163:=n6_;clear n0_ n1_ n2_ n3_ n4_ n5_ n6_;clear hb hbox hg;have hnb13:=NB163_164.out;have hnc13:=NB164_163.out;have hcz14_0:w12.cell? ⟨gb163,0,none⟩=some (.int .i64 a0_0):=(bC BK163.out 0).trans rfl;have hcz14_1:w12.cell? ⟨gb163,1,none⟩=some (.int .i64 a0_1):=(bC BK163.out 1).trans rfl;have hcz14_2:w12.cell? ⟨gb163,2,none⟩=some (.bool a0_2):=(bC BK163.out 2).trans rfl;have hfz14_0:=bF BK163.out 0;have hfz14_1:=bF BK163.out 1;have hfz14_2:=bF BK163.out 2;have hcz15_0:w12.cell? ⟨gb164,0,none⟩=some (.int .i64 a1_0):=(bC BK164.out 0).trans rfl;have hcz15_1:w12.cell? ⟨gb164,1,none⟩=some (.int .i64 a1_1):=(bC BK164.out 1).trans rfl;have hcz15_2:w12.cell? ⟨gb164,2,none⟩=some (.bool a1_2):=(bC BK164.out 2).trans rfl;have hfz15_0:=bF BK164.out 0;have hfz15_1:=bF BK164.out 1;have hfz15_2:=bF BK164.out 2))
    go_ret
    exact ⟨by first|rfl|(simp [errW_none,errW_some] <;> rfl)|(simp [*,errW_none,errW_some] <;> rfl),by repeat (first|(with_reducible first|exact HB.out|apply qA|apply qN|apply q1_|refine qS ?_ GE163.out|refine qS ?_ GE164.out)|exact HB.out)⟩
  ·rw [if_neg c4] at H
   have c4b0:(a0_1 == a1_1)=false:=beq_eq_false_iff_ne.mpr c4
   have c4b1:(a0_1 != a1_1)=true:=bne_iff_ne.mpr c4
   obtain rfl:=Option.some.inj H
   go_enter Try.func39,Try.ntmps39
   go_wp2_with (first|((with_reducible refine gate_dst (N:=2) rfl ?_);refine box_event ?hg (N:=2) ?hd (cs:=#[.int .i64 a0_0,.int .i64 a0_1,.bool a0_2]) (t:=62) ?hr ?_;(case hd=>rfl);(case hg=>rfl);(case hr=>first|(go_simp;done)|(go_simp;rfl));intro gb163 hg w16 hbox hb;have n0_:=Zz.mk (qP (by repeat (first|(with_reducible first|exact HB.out|apply qA|apply qN|apply q1_)|exact HB.out)) hb);have n1_:=Zz.mk (hbox);have n2_:=Zz.mk ((by rw [hg];exact (qZ (by repeat (first|(with_reducible first|exact HB.out|apply qA|apply qN|apply q1_)|exact HB.out))):w.heap.size≤gb163));have n3_:=Zz.mk ((by rw [hg];exact (qZ (by repeat (first|(with_reducible first|exact HB.out|apply qA|apply qN|apply q1_)|exact HB.out))):w.heap.size≤gb163));clear HB;have HB:=n0_;have BK163:=n1_;have GW163:=n2_;have GE163:=n3_;clear n0_ n1_ n2_ n3_;clear hb hbox hg)|((with_reducible refine gate_dst (N:=3) rfl ?_);refine box_event ?hg (N:=3) ?hd (cs:=#[.int .i64 a1_0,.int .i64 a1_1,.bool a1_2]) (t:=62) ?hr ?_;(case hd=>rfl);(case hg=>rfl);(case hr=>first|(go_simp;done)|(go_simp;rfl));intro gb164 hg w17 hbox hb;have n0_:=Zz.mk (bB (g:=gb163) (o:=.cells #[.int .i64 a0_0,.int .i64 a0_1,.bool a0_2] 62 (0,0)) (by (with_reducible repeat first|apply bN|apply bD|apply bA);exact BK163.out) hb);have n1_:=Zz.mk (qP (by repeat (first|(with_reducible first|exact HB.out|apply qA|apply qN|apply q1_|refine qS ?_ GE163.out)|exact HB.out)) hb);have n2_:=Zz.mk (hbox);have n3_:=Zz.mk ((by rw [hg];exact (qZ (by repeat (first|(with_reducible first|exact HB.out|apply qA|apply qN|apply q1_|refine qS ?_ GE163.out)|exact HB.out))):w.heap.size≤gb164));have n4_:=Zz.mk ((by rw [hg];exact (qZ (by repeat (first|(with_reducible first|exact HB.out|apply qA|apply qN|apply q1_|refine qS ?_ GE163.out)|exact HB.out))):w.heap.size≤gb164));have n5_:=Zz.mk ((by rw [hg];exact Nat.ne_of_lt (blk_lt (g:=gb163) (o:=.cells #[.int .i64 a0_0,.int .i64 a0_1,.bool a0_2] 62 (0,0)) (by (with_reducible repeat first|apply bN|apply bD|apply bA);exact BK163.out)):gb163 ≠ gb164));have n6_:=Zz.mk ((by rw [hg];exact Nat.ne_of_gt (blk_lt (g:=gb163) (o:=.cells #[.int .i64 a0_0,.int .i64 a0_1,.bool a0_2] 62 (0,0)) (by (with_reducible repeat first|apply bN|apply bD|apply bA);exact BK163.out)):gb164 ≠ gb163));clear BK163;clear HB;have BK163:=n0_;have HB:=n1_;have BK164:=n2_;have GW164:=n3_;have GE164:=n4_;have NB163_164:=n5_;have NB164_163:=n6_;clear n0_ n1_ n2_ n3_ n4_ n5_ n6_;clear hb hbox hg;have hnb18:=NB163_164.out;have hnc18:=NB164_163.out;have hcz19_0:w17.cell? ⟨gb163,0,none⟩=some (.int .i64 a0_0):=(bC BK163.out 0).trans rfl;have hcz19_1:w17.cell? ⟨gb163,1,none⟩=some (.int .i64 a0_1):=(bC BK163.out 1).trans rfl;have hcz19_2:w17.cell? ⟨gb163,2,none⟩=some (.bool a0_2):=(bC BK163.out 2).trans rfl;have hfz19_0:=bF BK163.out 0;have hfz19_1:=bF BK163.out 1;have hfz19_2:=bF BK163.out 2;have hcz20_0:w17.cell? ⟨gb164,0,none⟩=some (.int .i64 a1_0):=(bC BK164.out 0).trans rfl;have hcz20_1:w17.cell? ⟨gb164,1,none⟩=some (.int .i64 a1_1):=(bC BK164.out 1).trans rfl;have hcz20_2:w17.cell? ⟨gb164,2,none⟩=some (.bool a1_2):=(bC BK164.out 2).trans rfl;have hfz20_0:=bF BK164.out 0;have hfz20_1:=bF BK164.out 1;have hfz20_2:=bF BK164.out 2))
   go_ret
   exact ⟨by first|rfl|(simp [errW_none,errW_some] <;> rfl)|(simp [*,errW_none,errW_some] <;> rfl),by repeat (first|(with_reducible first|exact HB.out|apply qA|apply qN|apply q1_|refine qS ?_ GE163.out|refine qS ?_ GE164.out)|exact HB.out)⟩
 ·rw [if_neg c3] at H
  have c3b0:(a0_0 == a1_0)=false:=beq_eq_false_iff_ne.mpr c3
  have c3b1:(a0_0 != a1_0)=true:=bne_iff_ne.mpr c3
  obtain rfl:=Option.some.inj H
  go_enter Try.func39,Try.ntmps39
  go_wp2_with (first|((with_reducible refine gate_dst (N:=2) rfl ?_);refine box_event ?hg (N:=2) ?hd (cs:=#[.int .i64 a0_0,.int .i64 a0_1,.bool a0_2]) (t:=62) ?hr ?_;(case hd=>rfl);(case hg=>rfl);(case hr=>first|(go_simp;done)|(go_simp;rfl));intro gb163 hg w21 hbox hb;have n0_:=Zz.mk (qP (by repeat (first|(with_reducible first|exact HB.out|apply qA|apply qN|apply q1_)|exact HB.out)) hb);have n1_:=Zz.mk (hbox);have n2_:=Zz.mk ((by rw [hg];exact (qZ (by repeat (first|(with_reducible first|exact HB.out|apply qA|apply qN|apply q1_)|exact HB.out))):w.heap.size≤gb163));have n3_:=Zz.mk ((by rw [hg];exact (qZ (by repeat (first|(with_reducible first|exact HB.out|apply qA|apply qN|apply q1_)|exact HB.out))):w.heap.size≤gb163));clear HB;have HB:=n0_;have BK163:=n1_;have GW163:=n2_;have GE163:=n3_;clear n0_ n1_ n2_ n3_;clear hb hbox hg)|((with_reducible refine gate_dst (N:=3) rfl ?_);refine box_event ?hg (N:=3) ?hd (cs:=#[.int .i64 a1_0,.int .i64 a1_1,.bool a1_2]) (t:=62) ?hr ?_;(case hd=>rfl);(case hg=>rfl);(case hr=>first|(go_simp;done)|(go_simp;rfl));intro gb164 hg w22 hbox hb;have n0_:=Zz.mk (bB (g:=gb163) (o:=.cells #[.int .i64 a0_0,.int .i64 a0_1,.bool a0_2] 62 (0,0)) (by (with_reducible repeat first|apply bN|apply bD|apply bA);exact BK163.out) hb);have n1_:=Zz.mk (qP (by repeat (first|(with_reducible first|exact HB.out|apply qA|apply qN|apply q1_|refine qS ?_ GE163.out)|exact HB.out)) hb);have n2_:=Zz.mk (hbox);have n3_:=Zz.mk ((by rw [hg];exact (qZ (by repeat (first|(with_reducible first|exact HB.out|apply qA|apply qN|apply q1_|refine qS ?_ GE163.out)|exact HB.out))):w.heap.size≤gb164));have n4_:=Zz.mk ((by rw [hg];exact (qZ (by repeat (first|(with_reducible first|exact HB.out|apply qA|apply qN|apply q1_|refine qS ?_ GE163.out)|exact HB.out))):w.heap.size≤gb164));have n5_:=Zz.mk ((by rw [hg];exact Nat.ne_of_lt (blk_lt (g:=gb163) (o:=.cells #[.int .i64 a0_0,.int .i64 a0_1,.bool a0_2] 62 (0,0)) (by (with_reducible repeat first|apply bN|apply bD|apply bA);exact BK163.out)):gb163 ≠ gb164));have n6_:=Zz.mk ((by rw [hg];exact Nat.ne_of_gt (blk_lt (g:=gb163) (o:=.cells #[.int .i64 a0_0,.int .i64 a0_1,.bool a0_2] 62 (0,0)) (by (with_reducible repeat first|apply bN|apply bD|apply bA);exact BK163.out)):gb164 ≠ gb163));clear BK163;clear HB;have BK163:=n0_;have HB:=n1_;have BK164:=n2_;have GW164:=n3_;have GE164:=n4_;have NB163_164:=n5_;have NB164_163:=n6_;clear n0_ n1_ n2_ n3_ n4_ n5_ n6_;clear hb hbox hg;have hnb23:=NB163_164.out;have hnc23:=NB164_163.out;have hcz24_0:w22.cell? ⟨gb163,0,none⟩=some (.int .i64 a0_0):=(bC BK163.out 0).trans rfl;have hcz24_1:w22.cell? ⟨gb163,1,none⟩=some (.int .i64 a0_1):=(bC BK163.out 1).trans rfl;have hcz24_2:w22.cell? ⟨gb163,2,none⟩=some (.bool a0_2):=(bC BK163.out 2).trans rfl;have hfz24_0:=bF BK163.out 0;have hfz24_1:=bF BK163.out 1;have hfz24_2:=bF BK163.out 2;have hcz25_0:w22.cell? ⟨gb164,0,none⟩=some (.int .i64 a1_0):=(bC BK164.out 0).trans rfl;have hcz25_1:w22.cell? ⟨gb164,1,none⟩=some (.int .i64 a1_1):=(bC BK164.out 1).trans rfl;have hcz25_2:w22.cell? ⟨gb164,2,none⟩=some (.bool a1_2):=(bC BK164.out 2).trans rfl;have hfz25_0:=bF BK164.out 0;have hfz25_1:=bF BK164.out 1;have hfz25_2:=bF BK164.out 2))
  go_ret
  exact ⟨by first|rfl|(simp [errW_none,errW_some] <;> rfl)|(simp [*,errW_none,errW_some] <;> rfl),by repeat (first|(with_reducible first|exact HB.out|apply qA|apply qN|apply q1_|refine qS ?_ GE163.out|refine qS ?_ GE164.out)|exact HB.out)⟩
end Go.Proofs.Ytghkbgmbbcaecaa.Q
namespace Go.Proofs.Ytghkbgmbbcaecaa.Q
open Go.RowKit Go.Proofs.YtghkbgmbbcaecaaW.PrintWords Go.Proofs.YtghkbgmbbcaecaaW.PrintLast Go.Proofs.YtghkbgmbbcaecaaW.PrintMore
attribute [local go_sem] run_field_23 run_field_24 run_field_31 run_field_32 run_field_35 run_field_36 isSome_setCell max2_int min2_int max_two min_two max_three min_three max_four min_four   -- for this text's walks alone
set_option linter.unusedVariables false
set_option linter.unusedSimpArgs false
def laws_eqNodeS.l0:Nat→List (S62)→List (S62)→Int→Option (Bool)
  | 0,_,_,_=>none
  | k+1,x0,x1,x5=>if x5<(x0.length:Int) then (if 0≤x5 then (if x5<(x1.length:Int) then ((laws_eqNode.f ((rT x0 x5).f0) ((rT x0 x5).f1) ((rT x0 x5).f2) ((rT x1 x5).f0) ((rT x1 x5).f1) ((rT x1 x5).f2)).bind fun t167=>(if t167=true then (laws_eqNodeS.l0 k x0 x1 (wrap64 (x5+1))) else (some false))) else (none)) else (none)) else (some true)
def laws_eqNodeS.f (k:Nat) (l0:List (S62)) (l1:List (S62)):Option (Bool):=if (l0.length:Int)=(l1.length:Int) then (laws_eqNodeS.l0 k l0 l1 0) else (some false)
def laws_eqNodeS.T6:Bool × List (List Nat × List Nat):=(true,[([],[]),([],[]),([0,1],[0,1]),([2],[2]),([],[]),([],[]),([4,5],[4,5]),([6],[6]),([3,7],[3,7]),([8],[8])])
def laws_eqNodeS.B6:List Nat:=[0,0,3,7,0,0,48,112,255,511]
theorem laws_eqNodeS.tab6:rtab .any (opsOf Try.f20 6)=laws_eqNodeS.T6:=by kernel_rfl
theorem laws_eqNodeS.bits6:waitsOk laws_eqNodeS.T6.2 laws_eqNodeS.B6=true:=by kernel_rfl
set_option maxHeartbeats 8000000 in
set_option maxRecDepth 100000 in
theorem laws_eqNodeS.calls (k:Nat) (A0:Option Addr) (c0:Nat) (l0:List (S62)) (A1:Option Addr) (c1:Nat) (l1:List (S62)) (r:Bool) (w:World) (hr0:Kd.C k62 w A0 l0.length l0) (hc0:l0.length≤c0) (hr1:Kd.C k62 w A1 l1.length l1) (hc1:l1.length≤c1) (h:laws_eqNodeS.f k l0 l1=some r) :
  Calls Try.prog 20 #[.slice A0 l0.length c0,.slice A1 l1.length c1] w fun e w'=>e=.returned (.bool r)∧Below w.heap.size w w':=by
 have hu62:=Try.underlying62
 have HR0:=Zz.mk hr0
 have HC0:=Zz.mk hc0
 clear hr0 hc0
 have HR1:=Zz.mk hr1
 have HC1:=Zz.mk hc1
 clear hr1 hc1
 have HB:=Zz.mk (Below.refl w.heap.size w)
 have H:(if (l0.length:Int)=(l1.length:Int) then (laws_eqNodeS.l0 k l0 l1 0) else (some false))=some r:=h
 clear h
 by_cases c3:(l0.length:Int)=(l1.length:Int)
 ·rw [if_pos c3] at H
  have c3b0:((l0.length:Int) == (l1.length:Int))=true:=beq_iff_eq.mpr c3
  have c3b1:((l0.length:Int) != (l1.length:Int))=false:=bne_eq_false_iff_eq.mpr c3
  have c3b2:(l0.length == l1.length)=true:=by first|simpa using c3|(simp at c3 ⊢;omega)
  clear c3
  have H':=Zz.mk H
  clear H
  go_enter Try.func20,Try.ntmps20
  go_wp2
  go_loopg [5] k (fun kq v5 w'=>∃ (x5_1:Int),v5=.int .i64 x5_1∧Zz (laws_eqNodeS.l0 kq l0 l1 x5_1=some r)∧Zz (kq≤k)∧Zz (Below w.heap.size w w'))
  case atStart=>exact ⟨(0),(by first|rfl|(simp;done)|(simp [*];done)),H',⟨Nat.le_refl _⟩,⟨by repeat (first|(with_reducible first|exact HB.out|apply qA|apply qN|apply q1_)|exact HB.out)⟩⟩
  case round =>
   clear H'
   try clear c1
   try clear c2
   try clear p2
   try clear c3
   try clear c3b0
   try clear c3b1
   try clear c3b2
   obtain ⟨x5_1,rfl,HA,HK1,HB⟩:=hrel
   cases gk with
   | zero=>exact absurd HA.out (by simp [laws_eqNodeS.l0])
   | succ k1 =>
    have H:=HA.out
    clear HA
    simp only [laws_eqNodeS.l0] at H
    by_cases c4:x5_1<(l0.length:Int)
    ·rw [if_pos c4] at H
     have c4b0:decide (x5_1<(l0.length:Int))=true:=decide_eq_true c4
     clear c4
     by_cases c5:0≤x5_1
     ·rw [if_pos c5] at H
      have c5b0:decide (0≤x5_1)=true:=decide_eq_true c5
      clear c5
      by_cases c6:x5_1<(l1.length:Int)
      ·rw [if_pos c6] at H
       have c6b0:decide (x5_1<(l1.length:Int))=true:=decide_eq_true c6
       clear c6
       replace H:=Option.bind_eq_some_iff.mp H
       obtain ⟨t167,A70,H⟩:=H
       replace H:(if t167=true then (laws_eqNodeS.l0 k1 l0 l1 (wrap64 (x5_1+1))) else (some false))=some r:=H
       have A7:=Zz.mk A70
       clear A70
       by_cases c8:t167=true
       ·subst c8
        have H1:(laws_eqNodeS.l0 k1 l0 l1 (wrap64 (x5_1+1)))=some r:=by rw [if_pos rfl] at H;exact H
        clear H
        have H:=H1
        clear H1
        have H':=Zz.mk H
        clear H
        try go_wp2
        have n0_:=Zz.mk (q1_ HB.out)
        revert n0_
        clear HB
        intro HB
        have p165:0≤(x5_1:Int):=of_decide_eq_true (by first|(with_reducible assumption)|assumption)
        have q165:x5_1<(l0.length:Int):=of_decide_eq_true (by first|(with_reducible assumption)|assumption)
        obtain ⟨ad165,e165,hx165_0,hx165_1,hx165_2⟩:=at_T62 HR0.out x5_1 p165 q165
        have hw165_2:=hx165_2
        have hw165_1:=hx165_1
        have hw165_0:=hx165_0
        cases e165
        replace hx165_0:=(HB.out.cell (World.block_lt_of_cell? w _ hx165_0)).trans hx165_0
        replace hx165_1:=(HB.out.cell (World.block_lt_of_cell? w _ hx165_1)).trans hx165_1
        replace hx165_2:=(HB.out.cell (World.block_lt_of_cell? w _ hx165_2)).trans hx165_2
        replace p165:=eq_true p165
        replace q165:=eq_true q165
        have p166:0≤(x5_1:Int):=of_decide_eq_true (by first|(with_reducible assumption)|assumption)
        have q166:x5_1<(l1.length:Int):=of_decide_eq_true (by first|(with_reducible assumption)|assumption)
        obtain ⟨ad166,e166,hx166_0,hx166_1,hx166_2⟩:=at_T62 HR1.out x5_1 p166 q166
        have hw166_2:=hx166_2
        have hw166_1:=hx166_1
        have hw166_0:=hx166_0
        cases e166
        replace hx166_0:=(HB.out.cell (World.block_lt_of_cell? w _ hx166_0)).trans hx166_0
        replace hx166_1:=(HB.out.cell (World.block_lt_of_cell? w _ hx166_1)).trans hx166_1
        replace hx166_2:=(HB.out.cell (World.block_lt_of_cell? w _ hx166_2)).trans hx166_2
        replace p166:=eq_true p166
        replace q166:=eq_true q166
        refine start_ (n:=10) (S:=fun w'=>w'.cell? (ad165.add ((x5_1).toNat * 3))=some (.int .i64 ((rT l0 x5_1).f0))∧w'.cell? ⟨(ad165.add ((x5_1).toNat * 3)).block,(ad165.add ((x5_1).toNat * 3)).off+1,none⟩=some (.int .i64 ((rT l0 x5_1).f1))∧w'.cell? ⟨(ad165.add ((x5_1).toNat * 3)).block,(ad165.add ((x5_1).toNat * 3)).off+2,none⟩=some (.bool ((rT l0 x5_1).f2))∧w'.cell? (ad166.add ((x5_1).toNat * 3))=some (.int .i64 ((rT l1 x5_1).f0))∧w'.cell? ⟨(ad166.add ((x5_1).toNat * 3)).block,(ad166.add ((x5_1).toNat * 3)).off+1,none⟩=some (.int .i64 ((rT l1 x5_1).f1))∧w'.cell? ⟨(ad166.add ((x5_1).toNat * 3)).block,(ad166.add ((x5_1).toNat * 3)).off+2,none⟩=some (.bool ((rT l1 x5_1).f2))) (ds:=[]) #[false,false,false,false,false,false,false,false,false,false] (by kernel_rfl) rfl rfl ⟨((HB.out.cell (World.block_lt_of_cell? w _ hw165_0)).trans hw165_0),((HB.out.cell (World.block_lt_of_cell? w _ hw165_1)).trans hw165_1),((HB.out.cell (World.block_lt_of_cell? w _ hw165_2)).trans hw165_2),((HB.out.cell (World.block_lt_of_cell? w _ hw166_0)).trans hw166_0),((HB.out.cell (World.block_lt_of_cell? w _ hw166_1)).trans hw166_1),((HB.out.cell (World.block_lt_of_cell? w _ hw166_2)).trans hw166_2)⟩ (fun hHeld=>?_);refine with_tabW laws_eqNodeS.tab6 laws_eqNodeS.bits6 (fun HT_ HW_=>?_)
        generalize wr.drew=w9 at HB hx165_0 hx165_1 hx165_2 hx166_0 hx166_1 hx166_2 hHeld ⊢
        refine pure_ (i:=0) (N:=some 17) (v:=?_) (a':=?_) #[true,false,false,false,false,false,false,false,false,false] rfl rfl (any_of HT_.out (by kernel_rfl)) (fun _ _ _ h=>h) (Or.inl ⟨by rfl,?_⟩) ?_ ?_
        rotate_left
        ·intro w'
         go_simp
         with_reducible rfl
        rotate_left
        ·simp only [Act.put,List.setIfInBounds_toArray,List.set_cons_zero,List.set_cons_succ,i64_w,i32_w]
         rfl
        refine pure_ (i:=1) (N:=some 18) (v:=?_) (a':=?_) #[true,true,false,false,false,false,false,false,false,false] rfl rfl (any_of HT_.out (by kernel_rfl)) (fun _ _ _ h=>h) (Or.inl ⟨by rfl,?_⟩) ?_ ?_
        rotate_left
        ·intro w'
         go_simp
         with_reducible rfl
        rotate_left
        ·simp only [Act.put,List.setIfInBounds_toArray,List.set_cons_zero,List.set_cons_succ,i64_w,i32_w]
         rfl
        refine pure_ (i:=2) (N:=some 19) (v:=?_) (a':=?_) #[true,true,true,false,false,false,false,false,false,false] rfl rfl (any_of HT_.out (by kernel_rfl)) (fun _ _ _ h=>h) (Or.inl ⟨by rfl,?_⟩) ?_ ?_
        rotate_left
        ·intro w'
         go_simp
         with_reducible rfl
        rotate_left
        ·simp only [Act.put,List.setIfInBounds_toArray,List.set_cons_zero,List.set_cons_succ,i64_w,i32_w]
         rfl
        refine pure_ (i:=4) (N:=some 21) (v:=?_) (a':=?_) #[true,true,true,false,true,false,false,false,false,false] rfl rfl (any_of HT_.out (by kernel_rfl)) (fun _ _ _ h=>h) (Or.inl ⟨by rfl,?_⟩) ?_ ?_
        rotate_left
        ·intro w'
         go_simp
         with_reducible rfl
        rotate_left
        ·simp only [Act.put,List.setIfInBounds_toArray,List.set_cons_zero,List.set_cons_succ,i64_w,i32_w]
         rfl
        refine pure_ (i:=5) (N:=some 22) (v:=?_) (a':=?_) #[true,true,true,false,true,true,false,false,false,false] rfl rfl (any_of HT_.out (by kernel_rfl)) (fun _ _ _ h=>h) (Or.inl ⟨by rfl,?_⟩) ?_ ?_
        rotate_left
        ·intro w'
         go_simp
         with_reducible rfl
        rotate_left
        ·simp only [Act.put,List.setIfInBounds_toArray,List.set_cons_zero,List.set_cons_succ,i64_w,i32_w]
         rfl
        refine pure_ (i:=6) (N:=some 23) (v:=?_) (a':=?_) #[true,true,true,false,true,true,true,false,false,false] rfl rfl (any_of HT_.out (by kernel_rfl)) (fun _ _ _ h=>h) (Or.inl ⟨by rfl,?_⟩) ?_ ?_
        rotate_left
        ·intro w'
         go_simp
         with_reducible rfl
        rotate_left
        ·simp only [Act.put,List.setIfInBounds_toArray,List.set_cons_zero,List.set_cons_succ,i64_w,i32_w]
         rfl
        refine take_ (i:=3) (N:=some 20) (v:=?_) (a':=?_) #[true,true,true,true,true,true,true,false,false,false] rfl rfl (take_ofW HT_.out HW_.out (by kernel_rfl)) (fun _ _ _ h=>h) (Or.inl ⟨by rfl,?_⟩) hHeld ?_ ?_
        rotate_left
        ·rintro w' ⟨s0,s1,s2,s3,s4,s5⟩
         go_simp
         with_reducible rfl
        rotate_left
        ·simp only [Act.put,List.setIfInBounds_toArray,List.set_cons_zero,List.set_cons_succ,i64_w,i32_w]
         rfl
        refine take_ (i:=7) (N:=some 24) (v:=?_) (a':=?_) #[true,true,true,true,true,true,true,true,false,false] rfl rfl (take_ofW HT_.out HW_.out (by kernel_rfl)) (fun _ _ _ h=>h) (Or.inl ⟨by rfl,?_⟩) hHeld ?_ ?_
        rotate_left
        ·rintro w' ⟨s0,s1,s2,s3,s4,s5⟩
         go_simp
         with_reducible rfl
        rotate_left
        ·simp only [Act.put,List.setIfInBounds_toArray,List.set_cons_zero,List.set_cons_succ,i64_w,i32_w]
         rfl
        refine one_ (i:=8) (N:=some 25) #[true,true,true,true,true,true,true,true,true,false] rfl rfl (one_of HT_.out (by kernel_rfl)) (by decide) (fun K hK=>?_)
        refine goes_ Try.func39 (by kernel_rfl) rfl #[.agg #[.int .i64 ((rT l0 x5_1).f0),.int .i64 ((rT l0 x5_1).f1),.bool ((rT l0 x5_1).f2)],.agg #[.int .i64 ((rT l1 x5_1).f0),.int .i64 ((rT l1 x5_1).f1),.bool ((rT l1 x5_1).f2)]] (by rfl) rfl rfl (by (try simp only [List.map_toArray,List.map_cons,List.map_nil]);first|done|rfl|(simp only [List.length_drop,List.length_take];rfl)) ?_
        with_reducible refine (laws_eqNode.calls ((rT l0 x5_1).f0) ((rT l0 x5_1).f1) ((rT l0 x5_1).f2) ((rT l1 x5_1).f0) ((rT l1 x5_1).f1) ((rT l1 x5_1).f2) true _ A7.out).mono ?_
        rintro e w10 ⟨rfl,hb⟩
        refine ⟨_,rfl,?_⟩
        have n0_:=Zz.mk (qP HB.out hb)
        revert n0_
        clear HB
        intro HB
        (try clear hb)
        (try clear hb2)
        (try clear hk)
        (try clear hi)
        refine hK.out _ _ ⟨((HB.out.cell (World.block_lt_of_cell? w _ hw165_0)).trans hw165_0),((HB.out.cell (World.block_lt_of_cell? w _ hw165_1)).trans hw165_1),((HB.out.cell (World.block_lt_of_cell? w _ hw165_2)).trans hw165_2),((HB.out.cell (World.block_lt_of_cell? w _ hw166_0)).trans hw166_0),((HB.out.cell (World.block_lt_of_cell? w _ hw166_1)).trans hw166_1),((HB.out.cell (World.block_lt_of_cell? w _ hw166_2)).trans hw166_2)⟩ (fun hHeld=>?_)
        clear hK K
        refine norm_ (a':=?_) ?_ ?_
        rotate_left
        ·show Act.put _ (some 25) _=_
         simp only [Act.put,List.setIfInBounds_toArray,List.set_cons_zero,List.set_cons_succ,i64_w,i32_w]
         rfl
        refine pure_ (i:=9) (N:=some 26) (v:=?_) (a':=?_) #[true,true,true,true,true,true,true,true,true,true] rfl rfl (any_of HT_.out (by kernel_rfl)) (fun _ _ _ h=>h) (Or.inl ⟨by rfl,?_⟩) ?_ ?_
        rotate_left
        ·intro w'
         go_simp
         with_reducible rfl
        rotate_left
        ·simp only [Act.put,List.setIfInBounds_toArray,List.set_cons_zero,List.set_cons_succ,i64_w,i32_w]
         rfl
        refine done_ (done_of HT_.out (by kernel_rfl)) ?_
        try go_wp2
        go_roundg k1
        case measure=>have:=HK1.out;omega
        case rel=>exact ⟨(wrap64 (x5_1+1)),(by first|rfl|(simp;done)|(simp [*];done)),H',⟨by have:=HK1.out;omega⟩,⟨by repeat (first|(with_reducible first|exact HB.out|apply qA|apply qN|apply q1_)|exact HB.out)⟩⟩
       ·replace c8:=Bool.eq_false_iff.mpr c8
        subst c8
        have H1:(some false)=some r:=by rw [if_neg (show ¬ (false=true) by decide)] at H;exact H
        clear H
        have H:=H1
        clear H1
        obtain rfl:=Option.some.inj H
        try go_wp2
        have n0_:=Zz.mk (q1_ HB.out)
        revert n0_
        clear HB
        intro HB
        have p165:0≤(x5_1:Int):=of_decide_eq_true (by first|(with_reducible assumption)|assumption)
        have q165:x5_1<(l0.length:Int):=of_decide_eq_true (by first|(with_reducible assumption)|assumption)
        obtain ⟨ad165,e165,hx165_0,hx165_1,hx165_2⟩:=at_T62 HR0.out x5_1 p165 q165
        have hw165_2:=hx165_2
        have hw165_1:=hx165_1
        have hw165_0:=hx165_0
        cases e165
        replace hx165_0:=(HB.out.cell (World.block_lt_of_cell? w _ hx165_0)).trans hx165_0
        replace hx165_1:=(HB.out.cell (World.block_lt_of_cell? w _ hx165_1)).trans hx165_1
        replace hx165_2:=(HB.out.cell (World.block_lt_of_cell? w _ hx165_2)).trans hx165_2
        replace p165:=eq_true p165
        replace q165:=eq_true q165
        have p166:0≤(x5_1:Int):=of_decide_eq_true (by first|(with_reducible assumption)|assumption)
        have q166:x5_1<(l1.length:Int):=of_decide_eq_true (by first|(with_reducible assumption)|assumption)
        obtain ⟨ad166,e166,hx166_0,hx166_1,hx166_2⟩:=at_T62 HR1.out x5_1 p166 q166
        have hw166_2:=hx166_2
        have hw166_1:=hx166_1
        have hw166_0:=hx166_0
        cases e166
        replace hx166_0:=(HB.out.cell (World.block_lt_of_cell? w _ hx166_0)).trans hx166_0
        replace hx166_1:=(HB.out.cell (World.block_lt_of_cell? w _ hx166_1)).trans hx166_1
        replace hx166_2:=(HB.out.cell (World.block_lt_of_cell? w _ hx166_2)).trans hx166_2
        replace p166:=eq_true p166
        replace q166:=eq_true q166
        refine start_ (n:=10) (S:=fun w'=>w'.cell? (ad165.add ((x5_1).toNat * 3))=some (.int .i64 ((rT l0 x5_1).f0))∧w'.cell? ⟨(ad165.add ((x5_1).toNat * 3)).block,(ad165.add ((x5_1).toNat * 3)).off+1,none⟩=some (.int .i64 ((rT l0 x5_1).f1))∧w'.cell? ⟨(ad165.add ((x5_1).toNat * 3)).block,(ad165.add ((x5_1).toNat * 3)).off+2,none⟩=some (.bool ((rT l0 x5_1).f2))∧w'.cell? (ad166.add ((x5_1).toNat * 3))=some (.int .i64 ((rT l1 x5_1).f0))∧w'.cell? ⟨(ad166.add ((x5_1).toNat * 3)).block,(ad166.add ((x5_1).toNat * 3)).off+1,none⟩=some (.int .i64 ((rT l1 x5_1).f1))∧w'.cell? ⟨(ad166.add ((x5_1).toNat * 3)).block,(ad166.add ((x5_1).toNat * 3)).off+2,none⟩=some (.bool ((rT l1 x5_1).f2))) (ds:=[]) #[false,false,false,false,false,false,false,false,false,false] (by kernel_rfl) rfl rfl ⟨((HB.out.cell (World.block_lt_of_cell? w _ hw165_0)).trans hw165_0),((HB.out.cell (World.block_lt_of_cell? w _ hw165_1)).trans hw165_1),((HB.out.cell (World.block_lt_of_cell? w _ hw165_2)).trans hw165_2),((HB.out.cell (World.block_lt_of_cell? w _ hw166_0)).trans hw166_0),((HB.out.cell (World.block_lt_of_cell? w _ hw166_1)).trans hw166_1),((HB.out.cell (World.block_lt_of_cell? w _ hw166_2)).trans hw166_2)⟩ (fun hHeld=>?_);refine with_tabW laws_eqNodeS.tab6 laws_eqNodeS.bits6 (fun HT_ HW_=>?_)
        generalize wr.drew=w11 at HB hx165_0 hx165_1 hx165_2 hx166_0 hx166_1 hx166_2 hHeld ⊢
        refine pure_ (i:=0) (N:=some 17) (v:=?_) (a':=?_) #[true,false,false,false,false,false,false,false,false,false] rfl rfl (any_of HT_.out (by kernel_rfl)) (fun _ _ _ h=>h) (Or.inl ⟨by rfl,?_⟩) ?_ ?_
        rotate_left
        ·intro w'
         go_simp
         with_reducible rfl
        rotate_left
        ·simp only [Act.put,List.setIfInBounds_toArray,List.set_cons_zero,List.set_cons_succ,i64_w,i32_w]
         rfl
        refine pure_ (i:=1) (N:=some 18) (v:=?_) (a':=?_) #[true,true,false,false,false,false,false,false,false,false] rfl rfl (any_of HT_.out (by kernel_rfl)) (fun _ _ _ h=>h) (Or.inl ⟨by rfl,?_⟩) ?_ ?_
        rotate_left
        ·intro w'
         go_simp
         with_reducible rfl
        rotate_left
        ·simp only [Act.put,List.setIfInBounds_toArray,List.set_cons_zero,List.set_cons_succ,i64_w,i32_w]
         rfl
        refine pure_ (i:=2) (N:=some 19) (v:=?_) (a':=?_) #[true,true,true,false,false,false,false,false,false,false] rfl rfl (any_of HT_.out (by kernel_rfl)) (fun _ _ _ h=>h) (Or.inl ⟨by rfl,?_⟩) ?_ ?_
        rotate_left
        ·intro w'
         go_simp
         with_reducible rfl
        rotate_left
        ·simp only [Act.put,List.setIfInBounds_toArray,List.set_cons_zero,List.set_cons_succ,i64_w,i32_w]
         rfl
        refine pure_ (i:=4) (N:=some 21) (v:=?_) (a':=?_) #[true,true,true,false,true,false,false,false,false,false] rfl rfl (any_of HT_.out (by kernel_rfl)) (fun _ _ _ h=>h) (Or.inl ⟨by rfl,?_⟩) ?_ ?_
        rotate_left
        ·intro w'
         go_simp
         with_reducible rfl
        rotate_left
        ·simp only [Act.put,List.setIfInBounds_toArray,List.set_cons_zero,List.set_cons_succ,i64_w,i32_w]
         rfl
        refine pure_ (i:=5) (N:=some 22) (v:=?_) (a':=?_) #[true,true,true,false,true,true,false,false,false,false] rfl rfl (any_of HT_.out (by kernel_rfl)) (fun _ _ _ h=>h) (Or.inl ⟨by rfl,?_⟩) ?_ ?_
        rotate_left
        ·intro w'
         go_simp
         with_reducible rfl
        rotate_left
        ·simp only [Act.put,List.setIfInBounds_toArray,List.set_cons_zero,List.set_cons_succ,i64_w,i32_w]
         rfl
        refine pure_ (i:=6) (N:=some 23) (v:=?_) (a':=?_) #[true,true,true,false,true,true,true,false,false,false] rfl rfl (any_of HT_.out (by kernel_rfl)) (fun _ _ _ h=>h) (Or.inl ⟨by rfl,?_⟩) ?_ ?_
        rotate_left
        ·intro w'
         go_simp
         with_reducible rfl
        rotate_left
        ·simp only [Act.put,List.setIfInBounds_toArray,List.set_cons_zero,List.set_cons_succ,i64_w,i32_w]
         rfl
        refine take_ (i:=3) (N:=some 20) (v:=?_) (a':=?_) #[true,true,true,true,true,true,true,false,false,false] rfl rfl (take_ofW HT_.out HW_.out (by kernel_rfl)) (fun _ _ _ h=>h) (Or.inl ⟨by rfl,?_⟩) hHeld ?_ ?_
        rotate_left
        ·rintro w' ⟨s0,s1,s2,s3,s4,s5⟩
         go_simp
         with_reducible rfl
        rotate_left
        ·simp only [Act.put,List.setIfInBounds_toArray,List.set_cons_zero,List.set_cons_succ,i64_w,i32_w]
         rfl
        refine take_ (i:=7) (N:=some 24) (v:=?_) (a':=?_) #[true,true,true,true,true,true,true,true,false,false] rfl rfl (take_ofW HT_.out HW_.out (by kernel_rfl)) (fun _ _ _ h=>h) (Or.inl ⟨by rfl,?_⟩) hHeld ?_ ?_
        rotate_left
        ·rintro w' ⟨s0,s1,s2,s3,s4,s5⟩
         go_simp
         with_reducible rfl
        rotate_left
        ·simp only [Act.put,List.setIfInBounds_toArray,List.set_cons_zero,List.set_cons_succ,i64_w,i32_w]
         rfl
        refine one_ (i:=8) (N:=some 25) #[true,true,true,true,true,true,true,true,true,false] rfl rfl (one_of HT_.out (by kernel_rfl)) (by decide) (fun K hK=>?_)
        refine goes_ Try.func39 (by kernel_rfl) rfl #[.agg #[.int .i64 ((rT l0 x5_1).f0),.int .i64 ((rT l0 x5_1).f1),.bool ((rT l0 x5_1).f2)],.agg #[.int .i64 ((rT l1 x5_1).f0),.int .i64 ((rT l1 x5_1).f1),.bool ((rT l1 x5_1).f2)]] (by rfl) rfl rfl (by (try simp only [List.map_toArray,List.map_cons,List.map_nil]);first|done|rfl|(simp only [List.length_drop,List.length_take];rfl)) ?_
        with_reducible refine (laws_eqNode.calls ((rT l0 x5_1).f0) ((rT l0 x5_1).f1) ((rT l0 x5_1).f2) ((rT l1 x5_1).f0) ((rT l1 x5_1).f1) ((rT l1 x5_1).f2) false _ A7.out).mono ?_
        rintro e w12 ⟨rfl,hb⟩
        refine ⟨_,rfl,?_⟩
        have n0_:=Zz.mk (qP HB.out hb)
        revert n0_
        clear HB
        intro HB
        (try clear hb)
        (try clear hb2)
        (try clear hk)
        (try clear hi)
        refine hK.out _ _ ⟨((HB.out.cell (World.block_lt_of_cell? w _ hw165_0)).trans hw165_0),((HB.out.cell (World.block_lt_of_cell? w _ hw165_1)).trans hw165_1),((HB.out.cell (World.block_lt_of_cell? w _ hw165_2)).trans hw165_2),((HB.out.cell (World.block_lt_of_cell? w _ hw166_0)).trans hw166_0),((HB.out.cell (World.block_lt_of_cell? w _ hw166_1)).trans hw166_1),((HB.out.cell (World.block_lt_of_cell? w _ hw166_2)).trans hw166_2)⟩ (fun hHeld=>?_)
        clear hK K
        refine norm_ (a':=?_) ?_ ?_
        rotate_left
        ·show Act.put _ (some 25) _=_
         simp only [Act.put,List.setIfInBounds_toArray,List.set_cons_zero,List.set_cons_succ,i64_w,i32_w]
         rfl
        refine pure_ (i:=9) (N:=some 26) (v:=?_) (a':=?_) #[true,true,true,true,true,true,true,true,true,true] rfl rfl (any_of HT_.out (by kernel_rfl)) (fun _ _ _ h=>h) (Or.inl ⟨by rfl,?_⟩) ?_ ?_
        rotate_left
        ·intro w'
         go_simp
         with_reducible rfl
        rotate_left
        ·simp only [Act.put,List.setIfInBounds_toArray,List.set_cons_zero,List.set_cons_succ,i64_w,i32_w]
         rfl
        refine done_ (done_of HT_.out (by kernel_rfl)) ?_
        try go_wp2
        go_ret
        exact ⟨by first|rfl|(simp [errW_none,errW_some] <;> rfl)|(simp [*,errW_none,errW_some] <;> rfl),by repeat (first|(with_reducible first|exact HB.out|apply qA|apply qN|apply q1_)|exact HB.out)⟩
      ·rw [if_neg c6] at H
       exact absurd H (by simp)
     ·rw [if_neg c5] at H
      exact absurd H (by simp)
    ·rw [if_neg c4] at H
     have c4b0:decide (x5_1<(l0.length:Int))=false:=decide_eq_false c4
     clear c4
     obtain rfl:=Option.some.inj H
     go_wp2
     go_ret
     exact ⟨by first|rfl|(simp [errW_none,errW_some] <;> rfl)|(simp [*,errW_none,errW_some] <;> rfl),by repeat (first|(with_reducible first|exact HB.out|apply qA|apply qN|apply q1_)|exact HB.out)⟩
 ·rw [if_neg c3] at H
  have c3b0:((l0.length:Int) == (l1.length:Int))=false:=beq_eq_false_iff_ne.mpr c3
  have c3b1:((l0.length:Int) != (l1.length:Int))=true:=bne_iff_ne.mpr c3
  have c3b2:(l0.length == l1.length)=false:=by first|simpa using c3|(simp at c3 ⊢;omega)
  obtain rfl:=Option.some.inj H
  go_enter Try.func20,Try.ntmps20
  go_wp2
  go_ret
  exact ⟨by first|rfl|(simp [errW_none,errW_some] <;> rfl)|(simp [*,errW_none,errW_some] <;> rfl),by repeat (first|(with_reducible first|exact HB.out|apply qA|apply qN|apply q1_)|exact HB.out)⟩
def laws_eqTrie.f (k:Nat) (l0_0:List (S62)) (l1_0:List (S62)):Option (Bool):=(laws_eqNodeS.f k l0_0 l1_0).bind fun t170=>(if t170=true then (some true) else (some false))
set_option maxHeartbeats 8000000 in
set_option maxRecDepth 100000 in
theorem laws_eqTrie.calls (k:Nat) (A0_0:Option Addr) (c0_0:Nat) (l0_0:List (S62)) (A1_0:Option Addr) (c1_0:Nat) (l1_0:List (S62)) (r:Bool) (w:World) (hr0_0:Kd.C k62 w A0_0 l0_0.length l0_0) (hc0_0:l0_0.length≤c0_0) (hr1_0:Kd.C k62 w A1_0 l1_0.length l1_0) (hc1_0:l1_0.length≤c1_0) (h:laws_eqTrie.f k l0_0 l1_0=some r) :
  Calls Try.prog 7 #[.agg #[.slice A0_0 l0_0.length c0_0],.agg #[.slice A1_0 l1_0.length c1_0]] w fun e w'=>e=.returned (.bool r)∧Below w.heap.size w w':=by
 have hu24:=Try.underlying24
 have HR0_0:=Zz.mk hr0_0
 have HC0_0:=Zz.mk hc0_0
 clear hr0_0 hc0_0
 have HR1_0:=Zz.mk hr1_0
 have HC1_0:=Zz.mk hc1_0
 clear hr1_0 hc1_0
 have HB:=Zz.mk (Below.refl w.heap.size w)
 have H:((laws_eqNodeS.f k l0_0 l1_0).bind fun t170=>(if t170=true then (some true) else (some false)))=some r:=h
 clear h
 replace H:=Option.bind_eq_some_iff.mp H
 obtain ⟨t170,A30,H⟩:=H
 replace H:(if t170=true then (some true) else (some false))=some r:=H
 have A3:=Zz.mk A30
 clear A30
 by_cases c4:t170=true
 ·subst c4
  have H1:(some true)=some r:=by rw [if_pos rfl] at H;exact H
  clear H
  have H:=H1
  clear H1
  obtain rfl:=Option.some.inj H
  go_enter Try.func7,Try.ntmps7
  go_wp2_with (first|((with_reducible refine gate_dst (N:=2) rfl ?_);refine box_event ?hg (N:=2) ?hd (cs:=#[.slice A0_0 l0_0.length c0_0]) (t:=24) ?hr ?_;(case hd=>rfl);(case hg=>rfl);(case hr=>first|(go_simp;done)|(go_simp;rfl));intro gb168 hg w5 hbox hb;have n0_:=Zz.mk (qP (by repeat (first|(with_reducible first|exact HB.out|apply qA|apply qN|apply q1_)|exact HB.out)) hb);have n1_:=Zz.mk (hbox);have n2_:=Zz.mk ((by rw [hg];exact (qZ (by repeat (first|(with_reducible first|exact HB.out|apply qA|apply qN|apply q1_)|exact HB.out))):w.heap.size≤gb168));have n3_:=Zz.mk ((by rw [hg];exact (qZ (by repeat (first|(with_reducible first|exact HB.out|apply qA|apply qN|apply q1_)|exact HB.out))):w.heap.size≤gb168));clear HB;have HB:=n0_;have BK168:=n1_;have GW168:=n2_;have GE168:=n3_;clear n0_ n1_ n2_ n3_;clear hb hbox hg)|((with_reducible refine gate_dst (N:=3) rfl ?_);refine box_event ?hg (N:=3) ?hd (cs:=#[.slice A1_0 l1_0.length c1_0]) (t:=24) ?hr ?_;(case hd=>rfl);(case hg=>rfl);(case hr=>first|(go_simp;done)|(go_simp;rfl));intro gb169 hg w6 hbox hb;have n0_:=Zz.mk (bB (g:=gb168) (o:=.cells #[.slice A0_0 l0_0.length c0_0] 24 (0,0)) (by (with_reducible repeat first|apply bN|apply bD|apply bA);exact BK168.out) hb);have n1_:=Zz.mk (qP (by repeat (first|(with_reducible first|exact HB.out|apply qA|apply qN|apply q1_|refine qS ?_ GE168.out)|exact HB.out)) hb);have n2_:=Zz.mk (hbox);have n3_:=Zz.mk ((by rw [hg];exact (qZ (by repeat (first|(with_reducible first|exact HB.out|apply qA|apply qN|apply q1_|refine qS ?_ GE168.out)|exact HB.out))):w.heap.size≤gb169));have n4_:=Zz.mk ((by rw [hg];exact (qZ (by repeat (first|(with_reducible first|exact HB.out|apply qA|apply qN|apply q1_|refine qS ?_ GE168.out)|exact HB.out))):w.heap.size≤gb169));have n5_:=Zz.mk ((by rw [hg];exact Nat.ne_of_lt (blk_lt (g:=gb168) (o:=.cells #[.slice A0_0 l0_0.length c0_0] 24 (0,0)) (by (with_reducible repeat first|apply bN|apply bD|apply bA);exact BK168.out)):gb168 ≠ gb169));have n6_:=Zz.mk ((by rw [hg];exact Nat.ne_of_gt (blk_lt (g:=gb168) (o:=.cells #[.slice A0_0 l0_0.length c0_0] 24 (0,0)) (by (with_reducible repeat first|apply bN|apply bD|apply bA);exact BK168.out)):gb169 ≠ gb168));clear BK168;clear HB;have BK168:=n0_;have HB:=n1_;have BK169:=n2_;have GW169:=n3_;have GE169:=n4_;have NB168_169:=n5_;have NB169_168:=n6_;clear n0_ n1_ n2_ n3_ n4_ n5_ n6_;clear hb hbox hg;have hnb7:=NB168_169.out;have hnc7:=NB169_168.out;have hcz8_0:w6.cell? ⟨gb168,0,none⟩=some (.slice A0_0 l0_0.length c0_0):=(bC BK168.out 0).trans rfl;have hfz8_0:=bF BK168.out 0;have hcz9_0:w6.cell? ⟨gb169,0,none⟩=some (.slice A1_0 l1_0.length c1_0):=(bC BK169.out 0).trans rfl;have hfz9_0:=bF BK169.out 0)|((with_reducible refine gate_callee (f:=20) rfl ?_);refine goesL_ (some 9) rfl rfl Try.func20 (by kernel_rfl) rfl #[.slice A0_0 l0_0.length c0_0,.slice A1_0 l1_0.length c1_0] rfl (by (try simp only [List.map_toArray,List.map_cons,List.map_nil]);first|done|rfl|(simp only [List.length_drop,List.length_take];rfl)) ?_;(with_reducible refine (laws_eqNodeS.calls k _ _ l0_0 _ _ l1_0 true _ ?side1 ?side2 ?side3 ?side4 A3.out).mono ?_);(case side1=>repeat (first|exact (Kd.C_below HR0_0.out HB.out)|(with_reducible refine Kd.C_alloc ?_ _)|(with_reducible refine Kd.C_drewN ?_ _)|(with_reducible refine Kd.C_drew ?_)));(case side2=>exact HC0_0.out);(case side3=>repeat (first|exact (Kd.C_below HR1_0.out HB.out)|(with_reducible refine Kd.C_alloc ?_ _)|(with_reducible refine Kd.C_drewN ?_ _)|(with_reducible refine Kd.C_drew ?_)));(case side4=>exact HC1_0.out);rintro e w10 ⟨rfl,hb⟩;refine ⟨_,rfl,?_⟩;have n0_:=Zz.mk (bB (g:=gb168) (o:=.cells #[.slice A0_0 l0_0.length c0_0] 24 (0,0)) (by (with_reducible repeat first|apply bN|apply bD|apply bA);exact BK168.out) hb);have n1_:=Zz.mk (bB (g:=gb169) (o:=.cells #[.slice A1_0 l1_0.length c1_0] 24 (0,0)) (by (with_reducible repeat first|apply bN|apply bD|apply bA);exact BK169.out) hb);have n2_:=Zz.mk (qP (by repeat (first|(with_reducible first|exact HB.out|apply qA|apply qN|apply q1_|refine qS ?_ GE168.out|refine qS ?_ GE169.out)|exact HB.out)) hb);clear BK168;clear BK169;clear HB;have BK168:=n0_;have BK169:=n1_;have HB:=n2_;clear n0_ n1_ n2_;(try clear hb);(try clear hb2);(try clear hk);(try clear hi)))
  go_ret
  exact ⟨by first|rfl|(simp [errW_none,errW_some] <;> rfl)|(simp [*,errW_none,errW_some] <;> rfl),by repeat (first|(with_reducible first|exact HB.out|apply qA|apply qN|apply q1_|refine qS ?_ GE168.out|refine qS ?_ GE169.out)|exact HB.out)⟩
 ·replace c4:=Bool.eq_false_iff.mpr c4
  subst c4
  have H1:(some false)=some r:=by rw [if_neg (show ¬ (false=true) by decide)] at H;exact H
  clear H
  have H:=H1
  clear H1
  obtain rfl:=Option.some.inj H
  go_enter Try.func7,Try.ntmps7
  go_wp2_with (first|((with_reducible refine gate_dst (N:=2) rfl ?_);refine box_event ?hg (N:=2) ?hd (cs:=#[.slice A0_0 l0_0.length c0_0]) (t:=24) ?hr ?_;(case hd=>rfl);(case hg=>rfl);(case hr=>first|(go_simp;done)|(go_simp;rfl));intro gb168 hg w11 hbox hb;have n0_:=Zz.mk (qP (by repeat (first|(with_reducible first|exact HB.out|apply qA|apply qN|apply q1_)|exact HB.out)) hb);have n1_:=Zz.mk (hbox);have n2_:=Zz.mk ((by rw [hg];exact (qZ (by repeat (first|(with_reducible first|exact HB.out|apply qA|apply qN|apply q1_)|exact HB.out))):w.heap.size≤gb168));have n3_:=Zz.mk ((by rw [hg];exact (qZ (by repeat (first|(with_reducible first|exact HB.out|apply qA|apply qN|apply q1_)|exact HB.out))):w.heap.size≤gb168));clear HB;have HB:=n0_;have BK168:=n1_;have GW168:=n2_;have GE168:=n3_;clear n0_ n1_ n2_ n3_;clear hb hbox hg)|((with_reducible refine gate_dst (N:=3) rfl ?_);refine box_event ?hg (N:=3) ?hd (cs:=#[.slice A1_0 l1_0.length c1_0]) (t:=24) ?hr ?_;(case hd=>rfl);(case hg=>rfl);(case hr=>first|(go_simp;done)|(go_simp;rfl));intro gb169 hg w12 hbox hb;have n0_:=Zz.mk (bB (g:=gb168) (o:=.cells #[.slice A0_0 l0_0.length c0_0] 24 (0,0)) (by (with_reducible repeat first|apply bN|apply bD|apply bA);exact BK168.out) hb);have n1_:=Zz.mk (qP (by repeat (first|(with_reducible first|exact HB.out|apply qA|apply qN|apply q1_|refine qS ?_ GE168.out)|exact HB.out)) hb);have n2_:=Zz.mk (hbox);have n3_:=Zz.mk ((by rw [hg];exact (qZ (by repeat (first|(with_reducible first|exact HB.out|apply qA|apply qN|apply q1_|refine qS ?_ GE168.out)|exact HB.out))):w.heap.size≤gb169));have n4_:=Zz.mk ((by rw [hg];exact (qZ (by repeat (first|(with_reducible first|exact HB.out|apply qA|apply qN|apply q1_|refine qS ?_ GE168.out)|exact HB.out))):w.heap.size≤gb169));have n5_:=Zz.mk ((by rw [hg];exact Nat.ne_of_lt (blk_lt (g:=gb168) (o:=.cells #[.slice A0_0 l0_0.length c0_0] 24 (0,0)) (by (with_reducible repeat first|apply bN|apply bD|apply bA);exact BK168.out)):gb168 ≠ gb169));have n6_:=Zz.mk ((by rw [hg];exact Nat.ne_of_gt (blk_lt (g:=gb168) (o:=.cells #[.slice A0_0 l0_0.length c0_0] 24 (0,0)) (by (with_reducible repeat first|apply bN|apply bD|apply bA);exact BK168.out)):gb169 ≠ gb168));clear BK168;clear HB;have BK168:=n0_;have HB:=n1_;have BK169:=n2_;have GW169:=n3_;have GE169:=n4_;have NB168_169:=n5_;have NB169_168:=n6_;clear n0_ n1_ n2_ n3_ n4_ n5_ n6_;clear hb hbox hg;have hnb13:=NB168_169.out;have hnc13:=NB169_168.out;have hcz14_0:w12.cell? ⟨gb168,0,none⟩=some (.slice A0_0 l0_0.length c0_0):=(bC BK168.out 0).trans rfl;have hfz14_0:=bF BK168.out 0;have hcz15_0:w12.cell? ⟨gb169,0,none⟩=some (.slice A1_0 l1_0.length c1_0):=(bC BK169.out 0).trans rfl;have hfz15_0:=bF BK169.out 0)|((with_reducible refine gate_callee (f:=20) rfl ?_);refine goesL_ (some 9) rfl rfl Try.func20 (by kernel_rfl) rfl #[.slice A0_0 l0_0.length c0_0,.slice A1_0 l1_0.length c1_0] rfl (by (try simp only [List.map_toArray,List.map_cons,List.map_nil]);first|done|rfl|(simp only [List.length_drop,List.length_take];rfl)) ?_;(with_reducible refine (laws_eqNodeS.calls k _ _ l0_0 _ _ l1_0 false _ ?side1 ?side2 ?side3 ?side4 A3.out).mono ?_);(case side1=>repeat (first|exact (Kd.C_below HR0_0.out HB.out)|(with_reducible refine Kd.C_alloc ?_ _)|(with_reducible refine Kd.C_drewN ?_ _)|(with_reducible refine Kd.C_drew ?_)));(case side2=>exact HC0_0.out);(case side3=>repeat (first|exact (Kd.C_below HR1_0.out HB.out)|(with_reducible refine Kd.C_alloc ?_ _)|(with_reducible refine Kd.C_drewN ?_ _)|(with_reducible refine Kd.C_drew ?_)));(case side4=>exact HC1_0.out);rintro e w16 ⟨rfl,hb⟩;refine ⟨_,rfl,?_⟩;have n0_:=Zz.mk (bB (g:=gb168) (o:=.cells #[.slice A0_0 l0_0.length c0_0] 24 (0,0)) (by (with_reducible repeat first|apply bN|apply bD|apply bA);exact BK168.out) hb);have n1_:=Zz.mk (bB (g:=gb169) (o:=.cells #[.slice A1_0 l1_0.length c1_0] 24 (0,0)) (by (with_reducible repeat first|apply bN|apply bD|apply bA);exact BK169.out) hb);have n2_:=Zz.mk (qP (by repeat (first|(with_reducible first|exact HB.out|apply qA|apply qN|apply q1_|refine qS ?_ GE168.out|refine qS ?_ GE169.out)|exact HB.out)) hb);clear BK168;clear BK169;clear HB;have BK168:=n0_;have BK169:=n1_;have HB:=n2_;clear n0_ n1_ n2_;(try clear hb);(try clear hb2);(try clear hk);(try clear hi)))
  go_ret
  exact ⟨by first|rfl|(simp [errW_none,errW_some] <;> rfl)|(simp [*,errW_none,errW_some] <;> rfl),by repeat (first|(with_reducible first|exact HB.out|apply qA|apply qN|apply q1_|refine qS ?_ GE168.out|refine qS ?_ GE169.out)|exact HB.out)⟩
def laws_markNodeS.l0:Nat→List (S62)→Int→Int→Option (Int × (List (S62)))
 | 0,_,_,_=>none
 | k+1,x0,x1,x5=>if x5<(x0.length:Int) then (if 0≤x5 then ((some (x0.set (x5:Int).toNat (⟨x1,(rT x0 x5).f1,(rT x0 x5).f2⟩:S62):List (S62))).bind fun y171=>((some (y171.set (x5:Int).toNat (⟨(rT y171 x5).f0,wrap64 (x1+1),(rT y171 x5).f2⟩:S62):List (S62))).bind fun y172=>(laws_markNodeS.l0 k (y172.set (x5:Int).toNat (⟨(rT y172 x5).f0,(rT y172 x5).f1,((Int.tmod (wrap64 ((wrap64 (x1+1))+1)) 3) == 0)⟩:S62)) (wrap64 ((wrap64 ((wrap64 (x1+1))+1))+1)) (wrap64 (x5+1))))) else (none)) else (some (x1,x0))
def laws_markNodeS.f (k:Nat) (l0:List (S62)) (a1:Int):Option (Int × (List (S62))):=laws_markNodeS.l0 k l0 a1 0
set_option maxHeartbeats 8000000 in
set_option maxRecDepth 100000 in
theorem laws_markNodeS.calls (k:Nat) (P0_:Nat→Prop) (u9000_:Value) (l0:List (S62)) (a1:Int) (r1:Int) (r2:List (S62)) (w0 w:World) (hB:Below w0.heap.size w0 w) (ho0:Kd.R k62 62 w w0.heap.size P0_ u9000_ l0) (h:laws_markNodeS.f k l0 a1=some (r1,r2)) :
  Calls Try.prog 21 #[u9000_,.int .i64 a1] w fun e w'=>e=.returned (.int .i64 r1)∧Kd.R k62 62 w' w0.heap.size (fun k_=>(P0_ k_∨w.heap.size≤k_)) u9000_ r2∧Below w0.heap.size w0 w'∧Kept w w' (fun k_=>P0_ k_):=by
 have HO0:=Zz.mk (show Kd.R k62 62 w w0.heap.size (fun k_=>(P0_ k_∨w.heap.size≤k_)) u9000_ l0 from Kd.R_mono ho0 (fun k_ hk=>(.inl hk)))
 have HK:=Zz.mk (Kept.refl w (fun k_=>P0_ k_))
 have HW0:=Zz.mk hB.size
 have HB:=Zz.mk hB
 clear hB
 have H:(laws_markNodeS.l0 k l0 a1 0)=some (r1,r2):=h
 clear h
 have H':=Zz.mk H
 clear H
 go_enter Try.func21,Try.ntmps21
 go_wp2
 go_loopg [1,5] k (fun kq v1 v5 w'=>∃ (x0_1:List (S62)) (x1_1:Int) (x5_1:Int),v1=.int .i64 x1_1∧v5=.int .i64 x5_1∧Zz (laws_markNodeS.l0 kq x0_1 x1_1 x5_1=some (r1,r2))∧Zz (kq≤k)∧Zz (Kd.R k62 62 w' w0.heap.size (fun k_=>(P0_ k_∨w.heap.size≤k_)) u9000_ x0_1)∧Zz (Kept w w' (fun k_=>P0_ k_))∧Zz (Below w0.heap.size w0 w'))
 case atStart=>exact ⟨(l0),(a1),(0),(by first|rfl|(simp;done)|(simp [*];done)),(by first|rfl|(simp;done)|(simp [*];done)),H',⟨Nat.le_refl _⟩,⟨by (with_reducible repeat first|apply Kd.R_alloc|apply Kd.R_drewN|apply Kd.R_drew);exact HO0.out⟩,⟨by repeat (first|(with_reducible first|exact HK.out|apply Kept.alloc|apply Kept.drewN|apply Kept.drew)|exact HK.out)⟩,⟨by repeat (first|(with_reducible first|exact HB.out|apply qA|apply qN|apply q1_)|exact HB.out)⟩⟩
 case round =>
  clear H'
  try clear c2
  try clear p2
  obtain ⟨x0_1,x1_1,x5_1,rfl,rfl,HA,HK1,HO_0,HK,HB⟩:=hrel
  cases gk with
  | zero=>exact absurd HA.out (by simp [laws_markNodeS.l0])
  | succ k1 =>
   have H:=HA.out
   clear HA
   simp only [laws_markNodeS.l0] at H
   by_cases c3:x5_1<(x0_1.length:Int)
   ·rw [if_pos c3] at H
    have c3b0:decide (x5_1<(x0_1.length:Int))=true:=decide_eq_true c3
    clear c3
    by_cases c4:0≤x5_1
    ·rw [if_pos c4] at H
     have c4b0:decide (0≤x5_1)=true:=decide_eq_true c4
     clear c4
     obtain ⟨y171,hy171⟩:∃ y_:List (S62),y_=(x0_1.set (x5_1:Int).toNat (⟨x1_1,(rT x0_1 x5_1).f1,(rT x0_1 x5_1).f2⟩:S62)):=⟨_,rfl⟩
     replace H:((some (y171.set (x5_1:Int).toNat (⟨(rT y171 x5_1).f0,wrap64 (x1_1+1),(rT y171 x5_1).f2⟩:S62):List (S62))).bind fun y172=>(laws_markNodeS.l0 k1 (y172.set (x5_1:Int).toNat (⟨(rT y172 x5_1).f0,(rT y172 x5_1).f1,((Int.tmod (wrap64 ((wrap64 (x1_1+1))+1)) 3) == 0)⟩:S62)) (wrap64 ((wrap64 ((wrap64 (x1_1+1))+1))+1)) (wrap64 (x5_1+1))))=some (r1,r2):=by first|(rw [hy171];with_reducible exact H)|(have H2_:=(Option.bind_some _ _).symm.trans H;rw [hy171];with_reducible exact H2_)|(have H2_:=(Option.bind_some _ _).symm.trans H;with_reducible exact H2_)|with_reducible exact H|(rw [hy171];exact H)|exact H
     have Ny171:=Zz.mk hy171
     clear hy171
     obtain ⟨y172,hy172⟩:∃ y_:List (S62),y_=(y171.set (x5_1:Int).toNat (⟨(rT y171 x5_1).f0,wrap64 (x1_1+1),(rT y171 x5_1).f2⟩:S62)):=⟨_,rfl⟩
     replace H:(laws_markNodeS.l0 k1 (y172.set (x5_1:Int).toNat (⟨(rT y172 x5_1).f0,(rT y172 x5_1).f1,((Int.tmod (wrap64 ((wrap64 (x1_1+1))+1)) 3) == 0)⟩:S62)) (wrap64 ((wrap64 ((wrap64 (x1_1+1))+1))+1)) (wrap64 (x5_1+1)))=some (r1,r2):=by first|(rw [hy172];with_reducible exact H)|(have H2_:=(Option.bind_some _ _).symm.trans H;rw [hy172];with_reducible exact H2_)|(have H2_:=(Option.bind_some _ _).symm.trans H;with_reducible exact H2_)|with_reducible exact H|(rw [hy172];exact H)|exact H
     have Ny172:=Zz.mk hy172
     clear hy172
     obtain ⟨y173,hy173⟩:∃ y_:List (S62),y_=(y172.set (x5_1:Int).toNat (⟨(rT y172 x5_1).f0,(rT y172 x5_1).f1,((Int.tmod (wrap64 ((wrap64 (x1_1+1))+1)) 3) == 0)⟩:S62)):=⟨_,rfl⟩
     replace H:(laws_markNodeS.l0 k1 y173 (wrap64 ((wrap64 ((wrap64 (x1_1+1))+1))+1)) (wrap64 (x5_1+1)))=some (r1,r2):=by first|(rw [hy173];with_reducible exact H)|(have H2_:=(Option.bind_some _ _).symm.trans H;rw [hy173];with_reducible exact H2_)|(have H2_:=(Option.bind_some _ _).symm.trans H;with_reducible exact H2_)|with_reducible exact H|(rw [hy173];exact H)|exact H
     have Ny173:=Zz.mk hy173
     clear hy173
     have H':=Zz.mk H
     clear H
     obtain ⟨Ao8,co8,eo8⟩:=Kd.R_slice HO_0.out
     subst eo8
     have p5:0≤(x5_1:Int):=of_decide_eq_true (by first|(with_reducible assumption)|assumption)
     have q5:(x5_1:Int)<((x0_1.length:Int):Int):=of_decide_eq_true (by first|(with_reducible assumption)|assumption)
     obtain ⟨go5,co5,eo5,gb5,gl5,cl5,HG5⟩:=Kd.R_form HO_0.out (by omega)
     (first|cases eo5|(injection eo5 with ea_ en_ ec_;(first|subst ea_|(injection ea_ with ea_;subst ea_));subst ec_;clear en_))
     have GB5:=Zz.mk gb5
     have GG5:=Zz.mk HG5
     clear gb5 gl5 HG5
     have HMgo5:=Zz.mk (show (P0_ go5∨w.heap.size≤go5) from (HO_0.out.1 _ rfl))
     obtain ⟨ce5,hcl5,hM5,hcc5,hfr5⟩:=Kd.R_elem HO_0.out z62 (x5_1:Int) p5 q5
     obtain rfl:=k62_openM hM5
     have hx5_0:wr.cell? ⟨go5,(x5_1:Int).toNat * 3,none⟩=some (.int .i64 ((rT x0_1 x5_1).f0)):=hcc5 0 _ rfl
     have hx5_1:wr.cell? ⟨go5,(x5_1:Int).toNat * 3+1,none⟩=some (.int .i64 ((rT x0_1 x5_1).f1)):=hcc5 1 _ rfl
     have hx5_2:wr.cell? ⟨go5,(x5_1:Int).toNat * 3+2,none⟩=some (.bool ((rT x0_1 x5_1).f2)):=hcc5 2 _ rfl
     have hf5_0:wr.frozen? ⟨go5,(x5_1:Int).toNat * 3,none⟩=false:=hfr5 0
     have hf5_1:wr.frozen? ⟨go5,(x5_1:Int).toNat * 3+1,none⟩=false:=hfr5 1
     have hf5_2:wr.frozen? ⟨go5,(x5_1:Int).toNat * 3+2,none⟩=false:=hfr5 2
     clear hcl5 hcc5 hfr5 hM5
     replace p5:=eq_true p5
     replace q5:=eq_true q5
     have HX9:=Zz.mk (show Kd.R k62 62 wr w0.heap.size (fun k_=>(P0_ k_∨w.heap.size≤k_)) (.slice (some ⟨go5,0,none⟩) x0_1.length co8) x0_1 from (by (with_reducible repeat first|apply Kd.R_alloc|apply Kd.R_drewN|apply Kd.R_drew);exact HO_0.out))
     obtain ⟨ce9,hcl9,hM9,hcc9,hfr9⟩:=Kd.R_elem HX9.out z62 (x5_1:Int) (of_decide_eq_true (by first|(with_reducible assumption)|assumption)) (by have h_:(x5_1:Int)<((x0_1.length:Int):Int):=of_decide_eq_true (by first|(with_reducible assumption)|assumption);first|exact h_|(have e_:=(Kd.R_reads' HO_0.out).1;omega)|simpa using h_)
     obtain rfl:=k62_openM hM9
     have HP9:=Kd.R_seg HX9.out (x5_1:Int) (of_decide_eq_true (by first|(with_reducible assumption)|assumption)) (by have h_:(x5_1:Int)<((x0_1.length:Int):Int):=of_decide_eq_true (by first|(with_reducible assumption)|assumption);first|exact h_|(have e_:=(Kd.R_reads' HO_0.out).1;omega)|simpa using h_) (seg:=[.int .i64 x1_1]) (j:=0) hcl9 hcc9 (show 1≤3 from by decide) (x':=(⟨x1_1,(rT x0_1 x5_1).f1,(rT x0_1 x5_1).f2⟩:S62)) (k62_mkM _ _ _ (⟨x1_1,(rT x0_1 x5_1).f1,(rT x0_1 x5_1).f2⟩:S62) ) (fun _ hk=>hk)
     have hx9_0:=hcc9 0 _ rfl
     (try simp only [show (k62).sz=3 from rfl,Nat.mul_one,Nat.add_zero] at hx9_0)
     have hf9_0:=hfr9 0
     (try simp only [show (k62).sz=3 from rfl,Nat.mul_one,Nat.add_zero] at hf9_0)
     clear hcl9 hcc9 hfr9 hM9
     go_wp2_with (first|((with_reducible refine gate_store (t:=3) (p:=16) rfl ?_);refine store_event (t:=3) (p:=16) (v:=?vo_w10) (w1:=(wr.setCell ⟨go5,(x5_1:Int).toNat * 3,none⟩ (.int .i64 x1_1))) ?hg ?ho ?hn ?hr ?_;(case ho=>rfl);(case hg=>rfl);(case hn=>rfl);(case hr=>first|(go_simp;done)|(go_simp;rfl));intro w10 hw;have hg:wr.grownBy w10 (some go5):=(by rw [hw];exact HP9.2);have hp_:Kd.R k62 62 w10 w0.heap.size (fun k_=>(P0_ k_∨w.heap.size≤k_)) (.slice (some ⟨go5,0,none⟩) x0_1.length co8) y171:=(by rw [hw,Ny171.out];exact HP9.1);clear HP9;have n0_:=Zz.mk (hp_);have n1_:=Zz.mk ((by rw [hw];exact qS (HB.out) GB5.out:Below w0.heap.size w0 w10));have n2_:=Zz.mk (Kept.of_grown (S:=(fun k_=>P0_ k_)) hg (by repeat (first|(with_reducible first|exact HK.out|apply Kept.alloc|apply Kept.drewN|apply Kept.drew)|exact HK.out)) (fun k_ e_=>(HO_0.out.1 k_ e_)));clear HO_0;clear HB;clear HK;have HO_0:=n0_;have HB:=n1_;have HK:=n2_;clear n0_ n1_ n2_;clear hg hw hp_;have p6:0≤(x5_1:Int):=of_decide_eq_true (by first|(with_reducible assumption)|assumption);have q6:(x5_1:Int)<((x0_1.length:Int):Int):=of_decide_eq_true (by first|(with_reducible assumption)|assumption);obtain ⟨ce6,hcl6,hM6,hcc6,hfr6⟩:=Kd.R_elem HO_0.out z62 (x5_1:Int) p6 q6;obtain rfl:=k62_openM hM6;have hx6_0:w10.cell? ⟨go5,(x5_1:Int).toNat * 3,none⟩=some (.int .i64 ((rT y171 x5_1).f0)):=hcc6 0 _ rfl;have hx6_1:w10.cell? ⟨go5,(x5_1:Int).toNat * 3+1,none⟩=some (.int .i64 ((rT y171 x5_1).f1)):=hcc6 1 _ rfl;have hx6_2:w10.cell? ⟨go5,(x5_1:Int).toNat * 3+2,none⟩=some (.bool ((rT y171 x5_1).f2)):=hcc6 2 _ rfl;have hf6_0:w10.frozen? ⟨go5,(x5_1:Int).toNat * 3,none⟩=false:=hfr6 0;have hf6_1:w10.frozen? ⟨go5,(x5_1:Int).toNat * 3+1,none⟩=false:=hfr6 1;have hf6_2:w10.frozen? ⟨go5,(x5_1:Int).toNat * 3+2,none⟩=false:=hfr6 2;clear hcl6 hcc6 hfr6 hM6;replace p6:=eq_true p6;replace q6:=eq_true q6;have HX11:=Zz.mk (show Kd.R k62 62 w10 w0.heap.size (fun k_=>(P0_ k_∨w.heap.size≤k_)) (.slice (some ⟨go5,0,none⟩) x0_1.length co8) y171 from (by (with_reducible repeat first|apply Kd.R_alloc|apply Kd.R_drewN|apply Kd.R_drew);exact HO_0.out));obtain ⟨ce11,hcl11,hM11,hcc11,hfr11⟩:=Kd.R_elem HX11.out z62 (x5_1:Int) (of_decide_eq_true (by first|(with_reducible assumption)|assumption)) (by have h_:(x5_1:Int)<((x0_1.length:Int):Int):=of_decide_eq_true (by first|(with_reducible assumption)|assumption);first|exact h_|(have e_:=(Kd.R_reads' HO_0.out).1;omega)|simpa using h_);obtain rfl:=k62_openM hM11;have HP11:=Kd.R_seg HX11.out (x5_1:Int) (of_decide_eq_true (by first|(with_reducible assumption)|assumption)) (by have h_:(x5_1:Int)<((x0_1.length:Int):Int):=of_decide_eq_true (by first|(with_reducible assumption)|assumption);first|exact h_|(have e_:=(Kd.R_reads' HO_0.out).1;omega)|simpa using h_) (seg:=[.int .i64 (wrap64 (x1_1+1))]) (j:=1) hcl11 hcc11 (show 2≤3 from by decide) (x':=(⟨(rT y171 x5_1).f0,wrap64 (x1_1+1),(rT y171 x5_1).f2⟩:S62)) (k62_mkM _ _ _ (⟨(rT y171 x5_1).f0,wrap64 (x1_1+1),(rT y171 x5_1).f2⟩:S62) ) (fun _ hk=>hk);have hx11_1:=hcc11 1 _ rfl;(try simp only [show (k62).sz=3 from rfl,Nat.mul_one,Nat.add_zero] at hx11_1);have hf11_1:=hfr11 1;(try simp only [show (k62).sz=3 from rfl,Nat.mul_one,Nat.add_zero] at hf11_1);clear hcl11 hcc11 hfr11 hM11)|((with_reducible refine gate_store (t:=3) (p:=23) rfl ?_);refine store_event (t:=3) (p:=23) (v:=?vo_w12) (w1:=(w10.setCell ⟨go5,(x5_1:Int).toNat * 3+1,none⟩ (.int .i64 (wrap64 (x1_1+1))))) ?hg ?ho ?hn ?hr ?_;(case ho=>rfl);(case hg=>rfl);(case hn=>rfl);(case hr=>first|(go_simp;done)|(go_simp;rfl));intro w12 hw;have hg:w10.grownBy w12 (some go5):=(by rw [hw];exact HP11.2);have hp_:Kd.R k62 62 w12 w0.heap.size (fun k_=>(P0_ k_∨w.heap.size≤k_)) (.slice (some ⟨go5,0,none⟩) x0_1.length co8) y172:=(by rw [hw,Ny172.out];exact HP11.1);clear HP11;have n0_:=Zz.mk (hp_);have n1_:=Zz.mk ((by rw [hw];exact qS (HB.out) GB5.out:Below w0.heap.size w0 w12));have n2_:=Zz.mk (Kept.of_grown (S:=(fun k_=>P0_ k_)) hg (by repeat (first|(with_reducible first|exact HK.out|apply Kept.alloc|apply Kept.drewN|apply Kept.drew)|exact HK.out)) (fun k_ e_=>(HO_0.out.1 k_ e_)));clear HO_0;clear HB;clear HK;have HO_0:=n0_;have HB:=n1_;have HK:=n2_;clear n0_ n1_ n2_;clear hg hw hp_;have p7:0≤(x5_1:Int):=of_decide_eq_true (by first|(with_reducible assumption)|assumption);have q7:(x5_1:Int)<((x0_1.length:Int):Int):=of_decide_eq_true (by first|(with_reducible assumption)|assumption);obtain ⟨ce7,hcl7,hM7,hcc7,hfr7⟩:=Kd.R_elem HO_0.out z62 (x5_1:Int) p7 q7;obtain rfl:=k62_openM hM7;have hx7_0:w12.cell? ⟨go5,(x5_1:Int).toNat * 3,none⟩=some (.int .i64 ((rT y172 x5_1).f0)):=hcc7 0 _ rfl;have hx7_1:w12.cell? ⟨go5,(x5_1:Int).toNat * 3+1,none⟩=some (.int .i64 ((rT y172 x5_1).f1)):=hcc7 1 _ rfl;have hx7_2:w12.cell? ⟨go5,(x5_1:Int).toNat * 3+2,none⟩=some (.bool ((rT y172 x5_1).f2)):=hcc7 2 _ rfl;have hf7_0:w12.frozen? ⟨go5,(x5_1:Int).toNat * 3,none⟩=false:=hfr7 0;have hf7_1:w12.frozen? ⟨go5,(x5_1:Int).toNat * 3+1,none⟩=false:=hfr7 1;have hf7_2:w12.frozen? ⟨go5,(x5_1:Int).toNat * 3+2,none⟩=false:=hfr7 2;clear hcl7 hcc7 hfr7 hM7;replace p7:=eq_true p7;replace q7:=eq_true q7;have HX13:=Zz.mk (show Kd.R k62 62 w12 w0.heap.size (fun k_=>(P0_ k_∨w.heap.size≤k_)) (.slice (some ⟨go5,0,none⟩) x0_1.length co8) y172 from (by (with_reducible repeat first|apply Kd.R_alloc|apply Kd.R_drewN|apply Kd.R_drew);exact HO_0.out));obtain ⟨ce13,hcl13,hM13,hcc13,hfr13⟩:=Kd.R_elem HX13.out z62 (x5_1:Int) (of_decide_eq_true (by first|(with_reducible assumption)|assumption)) (by have h_:(x5_1:Int)<((x0_1.length:Int):Int):=of_decide_eq_true (by first|(with_reducible assumption)|assumption);first|exact h_|(have e_:=(Kd.R_reads' HO_0.out).1;omega)|simpa using h_);obtain rfl:=k62_openM hM13;have HP13:=Kd.R_seg HX13.out (x5_1:Int) (of_decide_eq_true (by first|(with_reducible assumption)|assumption)) (by have h_:(x5_1:Int)<((x0_1.length:Int):Int):=of_decide_eq_true (by first|(with_reducible assumption)|assumption);first|exact h_|(have e_:=(Kd.R_reads' HO_0.out).1;omega)|simpa using h_) (seg:=[.bool ((Int.tmod (wrap64 ((wrap64 (x1_1+1))+1)) 3) == 0)]) (j:=2) hcl13 hcc13 (show 3≤3 from by decide) (x':=(⟨(rT y172 x5_1).f0,(rT y172 x5_1).f1,((Int.tmod (wrap64 ((wrap64 (x1_1+1))+1)) 3) == 0)⟩:S62)) (k62_mkM _ _ _ (⟨(rT y172 x5_1).f0,(rT y172 x5_1).f1,((Int.tmod (wrap64 ((wrap64 (x1_1+1))+1)) 3) == 0)⟩:S62) ) (fun _ hk=>hk);have hx13_2:=hcc13 2 _ rfl;(try simp only [show (k62).sz=3 from rfl,Nat.mul_one,Nat.add_zero] at hx13_2);have hf13_2:=hfr13 2;(try simp only [show (k62).sz=3 from rfl,Nat.mul_one,Nat.add_zero] at hf13_2);clear hcl13 hcc13 hfr13 hM13)|((with_reducible refine gate_store (t:=4) (p:=32) rfl ?_);refine store_event (t:=4) (p:=32) (v:=?vo_w14) (w1:=(w12.setCell ⟨go5,(x5_1:Int).toNat * 3+2,none⟩ (.bool ((Int.tmod (wrap64 ((wrap64 (x1_1+1))+1)) 3) == 0)))) ?hg ?ho ?hn ?hr ?_;(case ho=>rfl);(case hg=>rfl);(case hn=>rfl);(case hr=>first|(go_simp;done)|(go_simp;rfl));intro w14 hw;have hg:w12.grownBy w14 (some go5):=(by rw [hw];exact HP13.2);have hp_:Kd.R k62 62 w14 w0.heap.size (fun k_=>(P0_ k_∨w.heap.size≤k_)) (.slice (some ⟨go5,0,none⟩) x0_1.length co8) y173:=(by rw [hw,Ny173.out];exact HP13.1);clear HP13;have n0_:=Zz.mk (hp_);have n1_:=Zz.mk ((by rw [hw];exact qS (HB.out) GB5.out:Below w0.heap.size w0 w14));have n2_:=Zz.mk (Kept.of_grown (S:=(fun k_=>P0_ k_)) hg (by repeat (first|(with_reducible first|exact HK.out|apply Kept.alloc|apply Kept.drewN|apply Kept.drew)|exact HK.out)) (fun k_ e_=>(HO_0.out.1 k_ e_)));clear HO_0;clear HB;clear HK;have HO_0:=n0_;have HB:=n1_;have HK:=n2_;clear n0_ n1_ n2_;clear hg hw hp_))
     go_roundg k1
     case measure=>have:=HK1.out;omega
     case rel=>exact ⟨(y173),(wrap64 ((wrap64 ((wrap64 (x1_1+1))+1))+1)),(wrap64 (x5_1+1)),(by first|rfl|(simp;done)|(simp [*];done)),(by first|rfl|(simp;done)|(simp [*];done)),H',⟨by have:=HK1.out;omega⟩,⟨by (with_reducible repeat first|apply Kd.R_alloc|apply Kd.R_drewN|apply Kd.R_drew);exact HO_0.out⟩,⟨by repeat (first|(with_reducible first|exact HK.out|apply Kept.alloc|apply Kept.drewN|apply Kept.drew)|exact HK.out)⟩,⟨by repeat (first|(with_reducible first|exact HB.out|apply qA|apply qN|apply q1_)|exact HB.out)⟩⟩
    ·rw [if_neg c4] at H
     exact absurd H (by simp)
   ·rw [if_neg c3] at H
    have c3b0:decide (x5_1<(x0_1.length:Int))=false:=decide_eq_false c3
    clear c3
    simp only [Option.some.injEq,Prod.mk.injEq] at H
    obtain ⟨rfl,rfl⟩:=H
    obtain ⟨Ao15,co15,eo15⟩:=Kd.R_slice HO_0.out
    subst eo15
    go_wp2
    go_ret
    exact ⟨by first|rfl|(simp [errW_none,errW_some] <;> rfl)|(simp [*,errW_none,errW_some] <;> rfl),by (with_reducible repeat first|apply Kd.R_alloc|apply Kd.R_drewN|apply Kd.R_drew);exact HO_0.out,by repeat (first|(with_reducible first|exact HB.out|apply qA|apply qN|apply q1_)|exact HB.out),by repeat (first|(with_reducible first|exact HK.out|apply Kept.alloc|apply Kept.drewN|apply Kept.drew)|exact HK.out)⟩
def laws_markTrie.f (k:Nat) (l0_0:List (S62)) (a1:Int):Option (Int × (List (S62))):=(laws_markNodeS.f k l0_0 a1).bind fun bt175=>(some (bt175.1,bt175.2))
set_option maxHeartbeats 8000000 in
set_option maxRecDepth 100000 in
theorem laws_markTrie.calls (k:Nat) (P0_0_:Nat→Prop) (u9000_:Value) (l0_0:List (S62)) (a1:Int) (r1:Int) (r2:List (S62)) (w0 w:World) (hB:Below w0.heap.size w0 w) (ho0_0:Kd.R k62 62 w w0.heap.size P0_0_ u9000_ l0_0) (h:laws_markTrie.f k l0_0 a1=some (r1,r2)) :
  Calls Try.prog 8 #[.agg #[u9000_],.int .i64 a1] w fun e w'=>e=.returned (.int .i64 r1)∧Kd.R k62 62 w' w0.heap.size (fun k_=>(P0_0_ k_∨w.heap.size≤k_)) u9000_ r2∧Below w0.heap.size w0 w'∧Kept w w' (fun k_=>P0_0_ k_):=by
 have hu24:=Try.underlying24
 have HO0_0:=Zz.mk (show Kd.R k62 62 w w0.heap.size (fun k_=>(P0_0_ k_∨w.heap.size≤k_)) u9000_ l0_0 from Kd.R_mono ho0_0 (fun k_ hk=>(.inl hk)))
 have HK:=Zz.mk (Kept.refl w (fun k_=>P0_0_ k_))
 have HW0:=Zz.mk hB.size
 have HB:=Zz.mk hB
 clear hB
 have H:((laws_markNodeS.f k l0_0 a1).bind fun bt175=>(some (bt175.1,bt175.2)))=some (r1,r2):=h
 clear h
 replace H:=Option.bind_eq_some_iff.mp H
 obtain ⟨⟨t175,t176⟩,A30,H⟩:=H
 replace H:(some (t175,t176))=some (r1,r2):=H
 have A3:=Zz.mk A30
 clear A30
 simp only [Option.some.injEq,Prod.mk.injEq] at H
 obtain ⟨rfl,rfl⟩:=H
 obtain ⟨Ao4,co4,eo4⟩:=Kd.R_slice HO0_0.out
 subst eo4
 go_enter Try.func8,Try.ntmps8
 go_wp2_with (first|((with_reducible refine gate_dst (N:=2) rfl ?_);refine box_event ?hg (N:=2) ?hd (cs:=#[.slice Ao4 l0_0.length co4]) (t:=24) ?hr ?_;(case hd=>rfl);(case hg=>rfl);(case hr=>first|(go_simp;done)|(go_simp;rfl));intro gb174 hg w5 hbox hb;have n0_:=Zz.mk (Kd.R_below (by (with_reducible repeat first|apply Kd.R_alloc|apply Kd.R_drewN|apply Kd.R_drew);exact HO0_0.out) hb);have n1_:=Zz.mk (Kept.below (S:=(fun k_=>P0_0_ k_)) (by repeat (first|(with_reducible first|exact HK.out|apply Kept.alloc|apply Kept.drewN|apply Kept.drew)|exact HK.out)) hb);have n2_:=Zz.mk (qP (by repeat (first|(with_reducible first|exact HB.out|apply qA|apply qN|apply q1_)|exact HB.out)) hb);have n3_:=Zz.mk (hbox);have n4_:=Zz.mk ((by rw [hg];exact (by first|exact HK.out.1|exact (show Kept w _ (fun k_=>P0_0_ k_) from by repeat (first|(with_reducible first|exact HK.out|apply Kept.alloc|apply Kept.drewN|apply Kept.drew)|exact HK.out)).1):w.heap.size≤gb174));have n5_:=Zz.mk ((by rw [hg];exact (qZ (by repeat (first|(with_reducible first|exact HB.out|apply qA|apply qN|apply q1_)|exact HB.out))):w0.heap.size≤gb174));clear HO0_0;clear HK;clear HB;have HO0_0:=n0_;have HK:=n1_;have HB:=n2_;have BK174:=n3_;have GW174:=n4_;have GE174:=n5_;clear n0_ n1_ n2_ n3_ n4_ n5_;clear hb hbox hg;have hcz6_0:w5.cell? ⟨gb174,0,none⟩=some (.slice Ao4 l0_0.length co4):=(bC BK174.out 0).trans rfl;have hfz6_0:=bF BK174.out 0)|((with_reducible refine gate_callee (f:=21) rfl ?_);refine goesL_ (some 8) rfl rfl Try.func21 (by kernel_rfl) rfl #[.slice Ao4 l0_0.length co4,.int .i64 a1] rfl (by (try simp only [List.map_toArray,List.map_cons,List.map_nil]);first|done|rfl|(simp only [List.length_drop,List.length_take];rfl)) ?_;(with_reducible refine (laws_markNodeS.calls k (fun k_=>some k_=(.slice Ao4 l0_0.length co4:Value).ownBlock) (.slice Ao4 l0_0.length co4) l0_0 a1 t175 t176 w0 _ ?side1 ?side2 A3.out).mono ?_);(case side1=>repeat (first|(with_reducible first|exact HB.out|apply qA|apply qN|apply q1_|refine qS ?_ GE174.out)|exact HB.out));(case side2=>exact Kd.R_tight rfl HO0_0.out);rintro e w7 ⟨rfl,hy0,hb,hkp⟩;refine ⟨_,rfl,?_⟩;have n0_:=Zz.mk (Kd.R_reok rfl hy0 (fun k_ e_=>HO0_0.out.1 k_ e_));have n1_:=Zz.mk (blk_kept (by (with_reducible repeat first|apply bN|apply bD|apply bA);exact BK174.out) hkp (fun hs_=>(fun e_=>(Kd.R_ne HO0_0.out BK174.out (by decide)) e_) hs_));have n2_:=Zz.mk (Kept.then_ (S:=(fun k_=>P0_0_ k_)) (by repeat (first|(with_reducible first|exact HK.out|apply Kept.alloc|apply Kept.drewN|apply Kept.drew|refine Kept.setCell ?_ (.inr GW174.out) _)|exact HK.out)) hkp (fun k_ hs_=>(fun e_=>(HO0_0.out.1 k_ e_.symm)) hs_));have n3_:=Zz.mk (hb);clear HO0_0;clear BK174;clear HK;clear HB;have HO0_0:=n0_;have BK174:=n1_;have HK:=n2_;have HB:=n3_;clear n0_ n1_ n2_ n3_;(try clear hb);(try clear hkp);(try clear hy0)))
 go_ret
 exact ⟨by first|rfl|(simp [errW_none,errW_some] <;> rfl)|(simp [*,errW_none,errW_some] <;> rfl),by (with_reducible repeat first|apply Kd.R_alloc|apply Kd.R_drewN|apply Kd.R_drew);exact HO0_0.out,by repeat (first|(with_reducible first|exact HB.out|apply qA|apply qN|apply q1_|refine qS ?_ GE174.out)|exact HB.out),by repeat (first|(with_reducible first|exact HK.out|apply Kept.alloc|apply Kept.drewN|apply Kept.drew|refine Kept.setCell ?_ (.inr GW174.out) _)|exact HK.out)⟩
mutual
def spec_l2Word.l0:Nat→ByteArray→Int→Option (Bool)
 | 0,_,_=>none
 | k+1,x0,x3=>if x3<(x0.size:Int) then (spec_l2Word.j1 k x0 x3 (decide (x3≤12))) else (spec_l2Word.j1 k x0 x3 false)
def spec_l2Word.j1:Nat→ByteArray→Int→Bool→Option (Bool)
 | 0,_,_,_=>none
 | k+1,x0,x3,x11=>if x11=true then (if 0≤x3 then (if x3<(x0.size:Int) then (if (bt x0 x3)<97 then (some false) else (if (bt x0 x3) > 122 then (some false) else (spec_l2Word.l0 k x0 (wrap64 (x3+1))))) else (none)) else (none)) else (some (decide ((x0.size:Int)≤12)))
end
def spec_l2Word.f (k:Nat) (a0:ByteArray):Option (Bool):=spec_l2Word.l0 k a0 0
set_option maxHeartbeats 8000000 in
set_option maxRecDepth 100000 in
theorem spec_l2Word.calls (k:Nat) (a0:ByteArray) (r:Bool) (w:World) (h:spec_l2Word.f k a0=some r) :
  Calls Try.prog 56 #[.string a0] w fun e w'=>e=.returned (.bool r)∧Drawn0 w w':=by
 have H:(spec_l2Word.l0 k a0 0)=some r:=h
 clear h
 have H':=Zz.mk H
 clear H
 go_enter Try.func56,Try.ntmps56
 go_wp2
 go_loopg [3] k (fun kq v3 w'=>∃ (x3_1:Int),v3=.int .i64 x3_1∧Zz (spec_l2Word.l0 kq a0 x3_1=some r)∧Zz (kq≤k)∧Drawn0 w w')
 case atStart=>exact ⟨(0),(by first|rfl|(simp;done)|(simp [*];done)),H',⟨Nat.le_refl _⟩,by repeat (first|exact Drawn0.refl _|apply Drawn0.step)⟩
 case round =>
  clear H'
  obtain ⟨x3_1,rfl,HA,HK1,⟨m1,rfl⟩⟩:=hrel
  cases gk with
  | zero=>exact absurd HA.out (by simp [spec_l2Word.l0])
  | succ k1 =>
   have H:=HA.out
   clear HA
   simp only [spec_l2Word.l0] at H
   have HC2:=Zz.mk H
   clear H
   go_upto_region 2 with (fail)
   go_cut [11] (fun v11 wc=>∃ (kq:Nat) (x11_1:Bool),v11=.bool x11_1∧Zz (spec_l2Word.j1 kq a0 x3_1 x11_1=some r)∧Zz (kq≤k1)∧Drawn0 w wc)
   case first =>
    have H:=HC2.out
    clear HC2
    by_cases c3:x3_1<(a0.size:Int)
    ·rw [if_pos c3] at H
     have c3b0:decide (x3_1<(a0.size:Int))=true:=decide_eq_true c3
     clear c3
     (first|rw [c3b0]|(simp only [i64_w,i32_w];rw [c3b0])|skip)
     have H':=Zz.mk H
     clear H
     go_wp2
     go_meet
     case rel=>exact ⟨_,(decide (x3_1≤12)),(by first|rfl|(simp;done)|(simp [*];done)),H',⟨by have:=HK1.out;first|omega|exact Nat.le_refl _⟩,by repeat (first|exact Drawn0.refl _|apply Drawn0.step)⟩
    ·rw [if_neg c3] at H
     have c3b0:decide (x3_1<(a0.size:Int))=false:=decide_eq_false c3
     clear c3
     (first|rw [c3b0]|(simp only [i64_w,i32_w];rw [c3b0])|skip)
     have H':=Zz.mk H
     clear H
     go_wp2
     go_meet
     case rel=>exact ⟨_,(false),(by first|rfl|(simp;done)|(simp [*];done)),H',⟨by have:=HK1.out;first|omega|exact Nat.le_refl _⟩,by repeat (first|exact Drawn0.refl _|apply Drawn0.step)⟩
   case rest =>
    clear HC2
    try clear p2
    try clear c3
    try clear c3b0
    obtain ⟨kq,x11_1,rfl,HA,HJ1,⟨mc1,rfl⟩⟩:=hcut
    cases kq with
    | zero=>exact absurd HA.out (by simp [spec_l2Word.j1])
    | succ kj1 =>
     have H:=HA.out
     clear HA
     simp only [spec_l2Word.j1] at H
     by_cases c4:x11_1=true
     ·subst c4
      have H1:(if 0≤x3_1 then (if x3_1<(a0.size:Int) then (if (bt a0 x3_1)<97 then (some false) else (if (bt a0 x3_1) > 122 then (some false) else (spec_l2Word.l0 kj1 a0 (wrap64 (x3_1+1))))) else (none)) else (none))=some r:=by rw [if_pos rfl] at H;exact H
      clear H
      have H:=H1
      clear H1
      by_cases c5:0≤x3_1
      ·rw [if_pos c5] at H
       have c5b0:decide (0≤x3_1)=true:=decide_eq_true c5
       clear c5
       by_cases c6:x3_1<(a0.size:Int)
       ·rw [if_pos c6] at H
        have c6b0:decide (x3_1<(a0.size:Int))=true:=decide_eq_true c6
        clear c6
        by_cases c8:(bt a0 x3_1)<97
        ·rw [if_pos c8] at H
         have c8b0:decide ((bt a0 x3_1)<97)=true:=decide_eq_true c8
         clear c8
         obtain rfl:=Option.some.inj H
         have p7:0≤(x3_1:Int):=of_decide_eq_true (by first|(with_reducible assumption)|assumption)
         have q7:x3_1<(a0.size:Int):=of_decide_eq_true (by first|(with_reducible assumption)|assumption)
         have hx7:=bt_at a0 x3_1
         replace p7:=eq_true p7
         replace q7:=eq_true q7
         go_wp2
         go_ret
         exact ⟨by first|rfl|(simp;done)|(simp [*];done),by repeat (first|exact Drawn0.refl _|apply Drawn0.step)⟩
        ·rw [if_neg c8] at H
         have c8b0:decide ((bt a0 x3_1)<97)=false:=decide_eq_false c8
         clear c8
         by_cases c10:(bt a0 x3_1) > 122
         ·rw [if_pos c10] at H
          have c10b0:decide (122<(bt a0 x3_1))=true:=decide_eq_true c10
          clear c10
          obtain rfl:=Option.some.inj H
          have p7:0≤(x3_1:Int):=of_decide_eq_true (by first|(with_reducible assumption)|assumption)
          have q7:x3_1<(a0.size:Int):=of_decide_eq_true (by first|(with_reducible assumption)|assumption)
          have hx7:=bt_at a0 x3_1
          replace p7:=eq_true p7
          replace q7:=eq_true q7
          have p9:0≤(x3_1:Int):=of_decide_eq_true (by first|(with_reducible assumption)|assumption)
          have q9:x3_1<(a0.size:Int):=of_decide_eq_true (by first|(with_reducible assumption)|assumption)
          have hx9:=bt_at a0 x3_1
          replace p9:=eq_true p9
          replace q9:=eq_true q9
          go_wp2
          go_ret
          exact ⟨by first|rfl|(simp;done)|(simp [*];done),by repeat (first|exact Drawn0.refl _|apply Drawn0.step)⟩
         ·rw [if_neg c10] at H
          have c10b0:decide (122<(bt a0 x3_1))=false:=decide_eq_false c10
          clear c10
          have H':=Zz.mk H
          clear H
          have p7:0≤(x3_1:Int):=of_decide_eq_true (by first|(with_reducible assumption)|assumption)
          have q7:x3_1<(a0.size:Int):=of_decide_eq_true (by first|(with_reducible assumption)|assumption)
          have hx7:=bt_at a0 x3_1
          replace p7:=eq_true p7
          replace q7:=eq_true q7
          have p9:0≤(x3_1:Int):=of_decide_eq_true (by first|(with_reducible assumption)|assumption)
          have q9:x3_1<(a0.size:Int):=of_decide_eq_true (by first|(with_reducible assumption)|assumption)
          have hx9:=bt_at a0 x3_1
          replace p9:=eq_true p9
          replace q9:=eq_true q9
          go_wp2
          go_roundg kj1
          case measure=>have:=HK1.out;have:=HJ1.out;omega
          case rel=>exact ⟨(wrap64 (x3_1+1)),(by first|rfl|(simp;done)|(simp [*];done)),H',⟨by have:=HK1.out;have:=HJ1.out;omega⟩,by repeat (first|exact Drawn0.refl _|apply Drawn0.step)⟩
       ·rw [if_neg c6] at H
        exact absurd H (by simp)
      ·rw [if_neg c5] at H
       exact absurd H (by simp)
     ·replace c4:=Bool.eq_false_iff.mpr c4
      subst c4
      have H1:(some (decide ((a0.size:Int)≤12)))=some r:=by rw [if_neg (show ¬ (false=true) by decide)] at H;exact H
      clear H
      have H:=H1
      clear H1
      obtain rfl:=Option.some.inj H
      go_wp2
      go_ret
      exact ⟨by first|rfl|(simp;done)|(simp [*];done),by repeat (first|exact Drawn0.refl _|apply Drawn0.step)⟩
end Go.Proofs.Ytghkbgmbbcaecaa.Q
namespace Go.Proofs.Ytghkbgmbbcaecaa.Q
open Go.RowKit Go.Proofs.YtghkbgmbbcaecaaW.PrintWords Go.Proofs.YtghkbgmbbcaecaaW.PrintLast Go.Proofs.YtghkbgmbbcaecaaW.PrintMore
attribute [local go_sem] run_field_23 run_field_24 run_field_31 run_field_32 run_field_35 run_field_36 isSome_setCell max2_int min2_int max_two min_two max_three min_three max_four min_four   -- for this text's walks alone
set_option linter.unusedVariables false
set_option linter.unusedSimpArgs false
mutual
def spec_l2Before.l0:Nat→ByteArray→ByteArray→Int→Option (Bool)
  | 0,_,_,_=>none
  | k+1,x0,x1,x5=>if x5<(x0.size:Int) then (spec_l2Before.j1 k x0 x1 x5 (decide (x5<(x1.size:Int)))) else (spec_l2Before.j1 k x0 x1 x5 false)
def spec_l2Before.j1:Nat→ByteArray→ByteArray→Int→Bool→Option (Bool)
  | 0,_,_,_,_=>none
  | k+1,x0,x1,x5,x15=>if x15=true then (if 0≤x5 then (if x5<(x0.size:Int) then (if x5<(x1.size:Int) then (if (bt x0 x5)=(bt x1 x5) then (spec_l2Before.l0 k x0 x1 (wrap64 (x5+1))) else (some (decide ((bt x0 x5)<(bt x1 x5))))) else (none)) else (none)) else (none)) else (some (decide ((x0.size:Int)<(x1.size:Int))))
end
def spec_l2Before.f (k:Nat) (a0:ByteArray) (a1:ByteArray):Option (Bool):=spec_l2Before.l0 k a0 a1 0
set_option maxHeartbeats 8000000 in
set_option maxRecDepth 100000 in
theorem spec_l2Before.calls (k:Nat) (a0:ByteArray) (a1:ByteArray) (r:Bool) (w:World) (h:spec_l2Before.f k a0 a1=some r) :
  Calls Try.prog 68 #[.string a0,.string a1] w fun e w'=>e=.returned (.bool r)∧Drawn0 w w':=by
 have H:(spec_l2Before.l0 k a0 a1 0)=some r:=h
 clear h
 have H':=Zz.mk H
 clear H
 go_enter Try.func68,Try.ntmps68
 go_wp2
 repeat (go_quiet (fail);try go_wp2)
 go_loopg [5] k (fun kq v5 w'=>∃ (x5_1:Int),v5=.int .i64 x5_1∧Zz (spec_l2Before.l0 kq a0 a1 x5_1=some r)∧Zz (kq≤k)∧Drawn0 w w')
 case atStart=>exact ⟨(0),(by first|rfl|(simp;done)|(simp [*];done)),H',⟨Nat.le_refl _⟩,by repeat (first|exact Drawn0.refl _|apply Drawn0.step)⟩
 case round =>
  clear H'
  try clear p2
  obtain ⟨x5_1,rfl,HA,HK1,⟨m1,rfl⟩⟩:=hrel
  cases gk with
  | zero=>exact absurd HA.out (by simp [spec_l2Before.l0])
  | succ k1 =>
   have H:=HA.out
   clear HA
   simp only [spec_l2Before.l0] at H
   have HC3:=Zz.mk H
   clear H
   go_upto_region 2 with (fail)
   repeat (go_quiet (fail);go_upto_region 2 with (fail))
   go_cut [15] (fun v15 wc=>∃ (kq:Nat) (x15_2:Bool),v15=.bool x15_2∧Zz (spec_l2Before.j1 kq a0 a1 x5_1 x15_2=some r)∧Zz (kq≤k1)∧Drawn0 w wc)
   case first =>
    have H:=HC3.out
    clear HC3
    by_cases c4:x5_1<(a0.size:Int)
    ·rw [if_pos c4] at H
     have c4b0:decide (x5_1<(a0.size:Int))=true:=decide_eq_true c4
     clear c4
     (first|rw [c4b0]|(simp only [i64_w,i32_w];rw [c4b0])|skip)
     have H':=Zz.mk H
     clear H
     go_wp2
     repeat (go_quiet (fail);try go_wp2)
     go_meet
     case rel=>exact ⟨_,(decide (x5_1<(a1.size:Int))),(by first|rfl|(simp;done)|(simp [*];done)),H',⟨by have:=HK1.out;first|omega|exact Nat.le_refl _⟩,by repeat (first|exact Drawn0.refl _|apply Drawn0.step)⟩
    ·rw [if_neg c4] at H
     have c4b0:decide (x5_1<(a0.size:Int))=false:=decide_eq_false c4
     clear c4
     (first|rw [c4b0]|(simp only [i64_w,i32_w];rw [c4b0])|skip)
     have H':=Zz.mk H
     clear H
     go_wp2
     repeat (go_quiet (fail);try go_wp2)
     go_meet
     case rel=>exact ⟨_,(false),(by first|rfl|(simp;done)|(simp [*];done)),H',⟨by have:=HK1.out;first|omega|exact Nat.le_refl _⟩,by repeat (first|exact Drawn0.refl _|apply Drawn0.step)⟩
   case rest =>
    clear HC3
    try clear p2
    try clear c4
    try clear c4b0
    try clear p2
    obtain ⟨kq,x15_2,rfl,HA,HJ2,⟨mc2,rfl⟩⟩:=hcut
    cases kq with
    | zero=>exact absurd HA.out (by simp [spec_l2Before.j1])
    | succ kj2 =>
     have H:=HA.out
     clear HA
     simp only [spec_l2Before.j1] at H
     by_cases c5:x15_2=true
     ·subst c5
      have H1:(if 0≤x5_1 then (if x5_1<(a0.size:Int) then (if x5_1<(a1.size:Int) then (if (bt a0 x5_1)=(bt a1 x5_1) then (spec_l2Before.l0 kj2 a0 a1 (wrap64 (x5_1+1))) else (some (decide ((bt a0 x5_1)<(bt a1 x5_1))))) else (none)) else (none)) else (none))=some r:=by rw [if_pos rfl] at H;exact H
      clear H
      have H:=H1
      clear H1
      by_cases c6:0≤x5_1
      ·rw [if_pos c6] at H
       have c6b0:decide (0≤x5_1)=true:=decide_eq_true c6
       clear c6
       by_cases c7:x5_1<(a0.size:Int)
       ·rw [if_pos c7] at H
        have c7b0:decide (x5_1<(a0.size:Int))=true:=decide_eq_true c7
        clear c7
        by_cases c9:x5_1<(a1.size:Int)
        ·rw [if_pos c9] at H
         have c9b0:decide (x5_1<(a1.size:Int))=true:=decide_eq_true c9
         clear c9
         by_cases c11:(bt a0 x5_1)=(bt a1 x5_1)
         ·rw [if_pos c11] at H
          have c11b0:((bt a0 x5_1) == (bt a1 x5_1))=true:=beq_iff_eq.mpr c11
          have c11b1:((bt a0 x5_1) != (bt a1 x5_1))=false:=bne_eq_false_iff_eq.mpr c11
          clear c11
          have H':=Zz.mk H
          clear H
          have p8:0≤(x5_1:Int):=of_decide_eq_true (by first|(with_reducible assumption)|assumption)
          have q8:x5_1<(a0.size:Int):=of_decide_eq_true (by first|(with_reducible assumption)|assumption)
          have hx8:=bt_at a0 x5_1
          replace p8:=eq_true p8
          replace q8:=eq_true q8
          have p10:0≤(x5_1:Int):=of_decide_eq_true (by first|(with_reducible assumption)|assumption)
          have q10:x5_1<(a1.size:Int):=of_decide_eq_true (by first|(with_reducible assumption)|assumption)
          have hx10:=bt_at a1 x5_1
          replace p10:=eq_true p10
          replace q10:=eq_true q10
          go_wp2
          repeat (go_quiet (fail);try go_wp2)
          go_roundg kj2
          case measure=>have:=HK1.out;have:=HJ2.out;omega
          case rel=>exact ⟨(wrap64 (x5_1+1)),(by first|rfl|(simp;done)|(simp [*];done)),H',⟨by have:=HK1.out;have:=HJ2.out;omega⟩,by repeat (first|exact Drawn0.refl _|apply Drawn0.step)⟩
         ·rw [if_neg c11] at H
          have c11b0:((bt a0 x5_1) == (bt a1 x5_1))=false:=beq_eq_false_iff_ne.mpr c11
          have c11b1:((bt a0 x5_1) != (bt a1 x5_1))=true:=bne_iff_ne.mpr c11
          obtain rfl:=Option.some.inj H
          have p8:0≤(x5_1:Int):=of_decide_eq_true (by first|(with_reducible assumption)|assumption)
          have q8:x5_1<(a0.size:Int):=of_decide_eq_true (by first|(with_reducible assumption)|assumption)
          have hx8:=bt_at a0 x5_1
          replace p8:=eq_true p8
          replace q8:=eq_true q8
          have p10:0≤(x5_1:Int):=of_decide_eq_true (by first|(with_reducible assumption)|assumption)
          have q10:x5_1<(a1.size:Int):=of_decide_eq_true (by first|(with_reducible assumption)|assumption)
          have hx10:=bt_at a1 x5_1
          replace p10:=eq_true p10
          replace q10:=eq_true q10
          have p12:0≤(x5_1:Int):=of_decide_eq_true (by first|(with_reducible assumption)|assumption)
          have q12:x5_1<(a0.size:Int):=of_decide_eq_true (by first|(with_reducible assumption)|assumption)
          have hx12:=bt_at a0 x5_1
          replace p12:=eq_true p12
          replace q12:=eq_true q12
          have p13:0≤(x5_1:Int):=of_decide_eq_true (by first|(with_reducible assumption)|assumption)
          have q13:x5_1<(a1.size:Int):=of_decide_eq_true (by first|(with_reducible assumption)|assumption)
          have hx13:=bt_at a1 x5_1
          replace p13:=eq_true p13
          replace q13:=eq_true q13
          go_wp2
          repeat (go_quiet (fail);try go_wp2)
          go_ret
          exact ⟨by first|rfl|(simp;done)|(simp [*];done),by repeat (first|exact Drawn0.refl _|apply Drawn0.step)⟩
        ·rw [if_neg c9] at H
         exact absurd H (by simp)
       ·rw [if_neg c7] at H
        exact absurd H (by simp)
      ·rw [if_neg c6] at H
       exact absurd H (by simp)
     ·replace c5:=Bool.eq_false_iff.mpr c5
      subst c5
      have H1:(some (decide ((a0.size:Int)<(a1.size:Int))))=some r:=by rw [if_neg (show ¬ (false=true) by decide)] at H;exact H
      clear H
      have H:=H1
      clear H1
      obtain rfl:=Option.some.inj H
      go_wp2
      repeat (go_quiet (fail);try go_wp2)
      go_ret
      exact ⟨by first|rfl|(simp;done)|(simp [*];done),by repeat (first|exact Drawn0.refl _|apply Drawn0.step)⟩
def spec_l2Own.f (l0:List ByteArray):Option (List ByteArray):=(some (([]:List ByteArray):List ByteArray)).bind fun y179=>(if y179.length+l0.length<8796093022208 then (some (y179 ++ l0)) else (none))
set_option maxHeartbeats 8000000 in
set_option maxRecDepth 100000 in
theorem spec_l2Own.calls (A0:Option Addr) (c0:Nat) (l0:List ByteArray) (r:List ByteArray) (w:World) (hr0:Kd.C Kd.string w A0 l0.length l0) (hc0:l0.length≤c0) (h:spec_l2Own.f l0=some r) :
  Calls Try.prog 69 #[.slice A0 l0.length c0] w fun e w'=>∃ v0_:Value,e=.returned (v0_)∧Kd.R Kd.string 9 w' w.heap.size (fun _=>True) v0_ r∧Below w.heap.size w w':=by
 have HR0:=Zz.mk hr0
 have HC0:=Zz.mk hc0
 clear hr0 hc0
 have HB:=Zz.mk (Below.refl w.heap.size w)
 have H:((some (([]:List ByteArray):List ByteArray)).bind fun y179=>(if y179.length+l0.length<8796093022208 then (some (y179 ++ l0)) else (none)))=some r:=h
 clear h
 obtain ⟨y179,hy179⟩:∃ y_:List ByteArray,y_=(([]:List ByteArray)):=⟨_,rfl⟩
 replace H:(if y179.length+l0.length<8796093022208 then (some (y179 ++ l0)) else (none))=some r:=by first|(rw [hy179];with_reducible exact H)|(have H2_:=(Option.bind_some _ _).symm.trans H;rw [hy179];with_reducible exact H2_)|(have H2_:=(Option.bind_some _ _).symm.trans H;with_reducible exact H2_)|with_reducible exact H|(rw [hy179];exact H)|exact H
 have Ny179:=Zz.mk hy179
 clear hy179
 by_cases c2:y179.length+l0.length<8796093022208
 ·rw [if_pos c2] at H
  have LMc2:=Zz.mk c2
  clear c2
  obtain ⟨y182,hy182⟩:∃ y_:List ByteArray,y_=(y179 ++ l0):=⟨_,rfl⟩
  replace H:(some y182)=some r:=by first|(rw [hy182];with_reducible exact H)|(have H2_:=(Option.bind_some _ _).symm.trans H;rw [hy182];with_reducible exact H2_)|(have H2_:=(Option.bind_some _ _).symm.trans H;with_reducible exact H2_)|with_reducible exact H|(rw [hy182];exact H)|exact H
  have Ny182:=Zz.mk hy182
  clear hy182
  obtain rfl:=Option.some.inj H
  go_enter Try.func69,Try.ntmps69
  go_wp2_with (first|((with_reducible refine gate_dst (N:=3) rfl ?_);refine Kd.R_lit Kd.string _ 9 ?hg (N:=3) ?hd (xs:=([]:List ByteArray)) (inner:=[]) (ok:=fun _=>True) (okp:=fun _=>True) ?hr ?hp (fun _ hk=>hk) trivial (Below.refl _ _) (Nat.le_refl _) (by simp) ?_;(case hd=>rfl);(case hg=>rfl);(case hr=>first|(go_simp;done)|(go_simp;rfl));(case hp=>exact (Reps.none _ _));intro v180 w3 ho4 hb hg_ hnew_;clear hg_ hnew_;(first|rw [← Ny179.out] at ho4|(simp only [Int.reduceToNat] at ho4;rw [← Ny179.out] at ho4));have n0_:=Zz.mk (Kd.R_lower ho4 (qZ (by repeat (first|(with_reducible first|exact HB.out|apply qA|apply qN|apply q1_)|exact HB.out))));have n1_:=Zz.mk (qP (by repeat (first|(with_reducible first|exact HB.out|apply qA|apply qN|apply q1_)|exact HB.out)) hb);clear HB;have HO181:=n0_;have HB:=n1_;clear n0_ n1_;clear hb ho4)|((with_reducible refine gate_builtin (b:=.append) (xs:=#[.tmp 3,.tmp 4]) rfl ?_);at_builtin;refine Kd.R_append_rows Kd.string (w0:=w) w.heap.size rfl (.tmp 3) (.tmp 4) 44 9 (.string ⟨#[]⟩) 16 rfl Try.underlying44 info9 rfl (by decide) (by omega) v180 y179 l0 _ _ _ (fun _=>True) (fun _=>False) rfl rfl ?aO ?aR (fun _ _ h=>h) (fun _ h=>h.elim) ?aF ?aB ?aS ?aL ?_;(case aR=>repeat (first|exact (Kd.C_below HR0.out HB.out)|(with_reducible refine Kd.C_alloc ?_ _)|(with_reducible refine Kd.C_drewN ?_ _)|(with_reducible refine Kd.C_drew ?_)));(case aB=>exact (by repeat (first|(with_reducible first|exact HB.out|apply qA|apply qN|apply q1_)|exact HB.out)));(case aF=>exact (fun _ _=>trivial));(case aO=>exact (by (with_reducible repeat first|apply Kd.R_alloc|apply Kd.R_drewN|apply Kd.R_drew);exact HO181.out));(case aS=>exact (qZ (by repeat (first|(with_reducible first|exact HB.out|apply qA|apply qN|apply q1_)|exact HB.out))));(case aL=>have:=LMc2.out;omega);intro v183 w5 ho hb hg hat;rw [← Ny182.out] at ho;have n0_:=Zz.mk (hb);have n1_:=Zz.mk (ho);clear HB;clear HO181;have HB:=n0_;have HO184:=n1_;clear n0_ n1_;clear ho hb hg hat))
  go_ret
  exact ⟨_,by first|rfl|(simp [errW_none,errW_some] <;> rfl)|(simp [*,errW_none,errW_some] <;> rfl),by (with_reducible repeat first|apply Kd.R_alloc|apply Kd.R_drewN|apply Kd.R_drew);exact HO184.out,by repeat (first|(with_reducible first|exact HB.out|apply qA|apply qN|apply q1_)|exact HB.out)⟩
 ·rw [if_neg c2] at H
  exact absurd H (by simp)
end Go.Proofs.Ytghkbgmbbcaecaa.Q
namespace Go.Proofs.Ytghkbgmbbcaecaa.Q
open Go.RowKit Go.Proofs.YtghkbgmbbcaecaaW.PrintWords Go.Proofs.YtghkbgmbbcaecaaW.PrintLast Go.Proofs.YtghkbgmbbcaecaaW.PrintMore
attribute [local go_sem] run_field_23 run_field_24 run_field_31 run_field_32 run_field_35 run_field_36 isSome_setCell max2_int min2_int max_two min_two max_three min_three max_four min_four   -- for this text's walks alone
set_option linter.unusedVariables false
set_option linter.unusedSimpArgs false
def spec_l2Put.l0:Nat→List ByteArray→ByteArray→Int→Option (List ByteArray)
  | 0,_,_,_=>none
  | k+1,x0,x1,x5=>if x5<(x0.length:Int) then (if 0≤x5 then ((spec_l2Before.f k (rdOf ByteArray.empty x0 x5) x1).bind fun t186=>(if t186=true then (spec_l2Put.l0 k x0 x1 (wrap64 (x5+1))) else (if (rdOf ByteArray.empty x0 x5).toList=x1.toList then (some x0) else (if x5≤(x0.length:Int) then ((spec_l2Own.f (x0.take (x5:Int).toNat)).bind fun t193=>((some (([x1]:List ByteArray):List ByteArray)).bind fun y196=>(if t193.length+y196.length<8796093022208 then ((some (t193 ++ y196:List ByteArray)).bind fun y199=>((some (x0.drop (x5:Int).toNat:List ByteArray)).bind fun y202=>(if y199.length+y202.length<8796093022208 then (some (y199 ++ y202)) else (none)))) else (none)))) else (none))))) else (none)) else (if 0≤x5 then (if x5≤(x0.length:Int) then ((spec_l2Own.f (x0.take (x5:Int).toNat)).bind fun t215=>((some (([x1]:List ByteArray):List ByteArray)).bind fun y218=>(if t215.length+y218.length<8796093022208 then ((some (t215 ++ y218:List ByteArray)).bind fun y221=>((some (x0.drop (x5:Int).toNat:List ByteArray)).bind fun y224=>(if y221.length+y224.length<8796093022208 then (some (y221 ++ y224)) else (none)))) else (none)))) else (none)) else (none))
def spec_l2Put.f (k:Nat) (l0:List ByteArray) (a1:ByteArray):Option (List ByteArray):=spec_l2Put.l0 k l0 a1 0
def spec_l2Put.T6:Bool × List (List Nat × List Nat):=(true,[([],[]),([],[]),([0,1],[0,1]),([2],[2]),([],[]),([4],[4]),([3,5,3],[3,5]),([],[]),([],[]),([7,8],[7,8]),([6,9,6],[6,9]),([10,10,0,1,2,3,4,5,6,7,8,9,10],[10])])
def spec_l2Put.B6:List Nat:=[0,0,3,7,0,16,63,0,0,384,1023,2047]
theorem spec_l2Put.tab6:rtab .any (opsOf Try.f57 6)=spec_l2Put.T6:=by kernel_rfl
theorem spec_l2Put.bits6:waitsOk spec_l2Put.T6.2 spec_l2Put.B6=true:=by kernel_rfl
set_option maxHeartbeats 8000000 in
set_option maxRecDepth 100000 in
theorem spec_l2Put.calls (k:Nat) (P0_:Nat→Prop) (A0:Option Addr) (c0:Nat) (l0:List ByteArray) (a1:ByteArray) (r:List ByteArray) (w:World) (hs0:Kd.V Kd.string 9 w w.heap.size (fun k_=>P0_ k_) (.slice A0 l0.length c0) l0) (h:spec_l2Put.f k l0 a1=some r) :
  Calls Try.prog 57 #[.slice A0 l0.length c0,.string a1] w fun e w'=>∃ v0_:Value,e=.returned (v0_)∧Kd.V Kd.string 9 w' w.heap.size (fun k_=>(P0_ k_∨w.heap.size≤k_)) v0_ r∧Below w.heap.size w w':=by
 have HO0:=Zz.mk (show Kd.V Kd.string 9 w w.heap.size (fun k_=>(P0_ k_∨w.heap.size≤k_)) (.slice A0 l0.length c0) l0 from Kd.V_mono hs0 (fun k_ hk=>.inl hk))
 have HB:=Zz.mk (Below.refl w.heap.size w)
 have H:(spec_l2Put.l0 k l0 a1 0)=some r:=h
 clear h
 have H':=Zz.mk H
 clear H
 go_enter Try.func57,Try.ntmps57
 go_wp2
 go_loopg [5] k (fun kq v5 w'=>∃ (x5_1:Int),v5=.int .i64 x5_1∧Zz (spec_l2Put.l0 kq l0 a1 x5_1=some r)∧Zz (kq≤k)∧Zz (Kd.V Kd.string 9 w' w.heap.size (fun k_=>(P0_ k_∨w.heap.size≤k_)) (.slice A0 l0.length c0) l0)∧Zz (Below w.heap.size w w'))
 case atStart=>exact ⟨(0),(by first|rfl|(simp;done)|(simp [*];done)),H',⟨Nat.le_refl _⟩,⟨by (with_reducible repeat (first|apply Kd.V_alloc|apply Kd.V_drewN|apply Kd.V_drew));exact HO0.out⟩,⟨by repeat (first|(with_reducible first|exact HB.out|apply qA|apply qN|apply q1_)|exact HB.out)⟩⟩
 case round =>
  clear H'
  try clear p2
  obtain ⟨x5_1,rfl,HA,HK1,HO_0,HB⟩:=hrel
  cases gk with
  | zero=>exact absurd HA.out (by simp [spec_l2Put.l0])
  | succ k1 =>
   have H:=HA.out
   clear HA
   simp only [spec_l2Put.l0] at H
   by_cases c3:x5_1<(l0.length:Int)
   ·rw [if_pos c3] at H
    have c3b0:decide (x5_1<(l0.length:Int))=true:=decide_eq_true c3
    clear c3
    by_cases c4:0≤x5_1
    ·rw [if_pos c4] at H
     have c4b0:decide (0≤x5_1)=true:=decide_eq_true c4
     clear c4
     replace H:=Option.bind_eq_some_iff.mp H
     obtain ⟨t186,A50,H⟩:=H
     replace H:(if t186=true then (spec_l2Put.l0 k1 l0 a1 (wrap64 (x5_1+1))) else (if (rdOf ByteArray.empty l0 x5_1).toList=a1.toList then (some l0) else (if x5_1≤(l0.length:Int) then ((spec_l2Own.f (l0.take (x5_1:Int).toNat)).bind fun t193=>((some (([a1]:List ByteArray):List ByteArray)).bind fun y196=>(if t193.length+y196.length<8796093022208 then ((some (t193 ++ y196:List ByteArray)).bind fun y199=>((some (l0.drop (x5_1:Int).toNat:List ByteArray)).bind fun y202=>(if y199.length+y202.length<8796093022208 then (some (y199 ++ y202)) else (none)))) else (none)))) else (none))))=some r:=H
     have A5:=Zz.mk A50
     clear A50
     by_cases c6:t186=true
     ·subst c6
      have H1:(spec_l2Put.l0 k1 l0 a1 (wrap64 (x5_1+1)))=some r:=by rw [if_pos rfl] at H;exact H
      clear H
      have H:=H1
      clear H1
      have H':=Zz.mk H
      clear H
      have p185:0≤(x5_1:Int):=of_decide_eq_true (by first|(with_reducible assumption)|assumption)
      have q185:x5_1<(l0.length:Int):=of_decide_eq_true (by first|(with_reducible assumption)|assumption)
      obtain ⟨ad185,e185,hx185_0⟩:=Kd.at_string (Kd.V_reads' HO_0.out).2.2 x5_1 p185 q185
      cases e185
      replace p185:=eq_true p185
      replace q185:=eq_true q185
      go_wp2_with (first|(go_at_call 68;(with_reducible refine (spec_l2Before.calls k1 (rdOf ByteArray.empty l0 x5_1) a1 true _ A5.out).mono ?_);rintro e w' ⟨rfl,⟨nd,rfl⟩⟩))
      go_roundg k1
      case measure=>have:=HK1.out;omega
      case rel=>exact ⟨(wrap64 (x5_1+1)),(by first|rfl|(simp;done)|(simp [*];done)),H',⟨by have:=HK1.out;omega⟩,⟨by (with_reducible repeat (first|apply Kd.V_alloc|apply Kd.V_drewN|apply Kd.V_drew));exact HO_0.out⟩,⟨by repeat (first|(with_reducible first|exact HB.out|apply qA|apply qN|apply q1_)|exact HB.out)⟩⟩
     ·replace c6:=Bool.eq_false_iff.mpr c6
      subst c6
      have H1:(if (rdOf ByteArray.empty l0 x5_1).toList=a1.toList then (some l0) else (if x5_1≤(l0.length:Int) then ((spec_l2Own.f (l0.take (x5_1:Int).toNat)).bind fun t193=>((some (([a1]:List ByteArray):List ByteArray)).bind fun y196=>(if t193.length+y196.length<8796093022208 then ((some (t193 ++ y196:List ByteArray)).bind fun y199=>((some (l0.drop (x5_1:Int).toNat:List ByteArray)).bind fun y202=>(if y199.length+y202.length<8796093022208 then (some (y199 ++ y202)) else (none)))) else (none)))) else (none)))=some r:=by rw [if_neg (show ¬ (false=true) by decide)] at H;exact H
      clear H
      have H:=H1
      clear H1
      by_cases c7:(rdOf ByteArray.empty l0 x5_1).toList=a1.toList
      ·rw [if_pos c7] at H
       have c7b0:((rdOf ByteArray.empty l0 x5_1).toList == a1.toList)=true:=beq_iff_eq.mpr c7
       have c7b1:((rdOf ByteArray.empty l0 x5_1).toList != a1.toList)=false:=bne_eq_false_iff_eq.mpr c7
       clear c7
       obtain rfl:=Option.some.inj H
       have p185:0≤(x5_1:Int):=of_decide_eq_true (by first|(with_reducible assumption)|assumption)
       have q185:x5_1<(l0.length:Int):=of_decide_eq_true (by first|(with_reducible assumption)|assumption)
       obtain ⟨ad185,e185,hx185_0⟩:=Kd.at_string (Kd.V_reads' HO_0.out).2.2 x5_1 p185 q185
       cases e185
       replace p185:=eq_true p185
       replace q185:=eq_true q185
       go_wp2_with (first|(go_at_call 68;(with_reducible refine (spec_l2Before.calls k1 (rdOf ByteArray.empty l0 x5_1) a1 false _ A5.out).mono ?_);rintro e w' ⟨rfl,⟨nd,rfl⟩⟩;have p187:0≤(x5_1:Int):=of_decide_eq_true (by first|(with_reducible assumption)|assumption);have q187:x5_1<(l0.length:Int):=of_decide_eq_true (by first|(with_reducible assumption)|assumption);obtain ⟨ad187,e187,hx187_0⟩:=Kd.at_string (Kd.V_reads' HO_0.out).2.2 x5_1 p187 q187;obtain rfl:ad185=ad187:=(by injection e187);replace p187:=eq_true p187;replace q187:=eq_true q187))
       go_ret
       exact ⟨_,by first|rfl|(simp [errW_none,errW_some] <;> rfl)|(simp [*,errW_none,errW_some] <;> rfl),by (with_reducible repeat (first|apply Kd.V_alloc|apply Kd.V_drewN|apply Kd.V_drew));exact HO_0.out,by repeat (first|(with_reducible first|exact HB.out|apply qA|apply qN|apply q1_)|exact HB.out)⟩
      ·rw [if_neg c7] at H
       have c7b0:((rdOf ByteArray.empty l0 x5_1).toList == a1.toList)=false:=beq_eq_false_iff_ne.mpr c7
       have c7b1:((rdOf ByteArray.empty l0 x5_1).toList != a1.toList)=true:=bne_iff_ne.mpr c7
       have c8b0:=eq_true (of_decide_eq_true (by first|(with_reducible assumption)|assumption):0≤x5_1)
       by_cases c9:x5_1≤(l0.length:Int)
       ·rw [if_pos c9] at H
        have c9b0:=eq_true c9
        have c9b1:decide (x5_1≤(l0.length:Int))=true:=decide_eq_true c9
        clear c9
        obtain ⟨y188,hy188⟩:∃ y_:List ByteArray,y_=(l0.take (x5_1:Int).toNat):=⟨_,rfl⟩
        replace H:((spec_l2Own.f y188).bind fun t193=>((some (([a1]:List ByteArray):List ByteArray)).bind fun y196=>(if t193.length+y196.length<8796093022208 then ((some (t193 ++ y196:List ByteArray)).bind fun y199=>((some (l0.drop (x5_1:Int).toNat:List ByteArray)).bind fun y202=>(if y199.length+y202.length<8796093022208 then (some (y199 ++ y202)) else (none)))) else (none))))=some r:=by first|(rw [hy188];with_reducible exact H)|(have H2_:=(Option.bind_some _ _).symm.trans H;rw [hy188];with_reducible exact H2_)|(have H2_:=(Option.bind_some _ _).symm.trans H;with_reducible exact H2_)|with_reducible exact H|(rw [hy188];exact H)|exact H
        have Ny188:=Zz.mk hy188
        clear hy188
        replace H:=Option.bind_eq_some_iff.mp H
        obtain ⟨t193,A100,H⟩:=H
        replace H:((some (([a1]:List ByteArray):List ByteArray)).bind fun y196=>(if t193.length+y196.length<8796093022208 then ((some (t193 ++ y196:List ByteArray)).bind fun y199=>((some (l0.drop (x5_1:Int).toNat:List ByteArray)).bind fun y202=>(if y199.length+y202.length<8796093022208 then (some (y199 ++ y202)) else (none)))) else (none)))=some r:=H
        have A10:=Zz.mk A100
        clear A100
        obtain ⟨y196,hy196⟩:∃ y_:List ByteArray,y_=(([a1]:List ByteArray)):=⟨_,rfl⟩
        replace H:(if t193.length+y196.length<8796093022208 then ((some (t193 ++ y196:List ByteArray)).bind fun y199=>((some (l0.drop (x5_1:Int).toNat:List ByteArray)).bind fun y202=>(if y199.length+y202.length<8796093022208 then (some (y199 ++ y202)) else (none)))) else (none))=some r:=by first|(rw [hy196];with_reducible exact H)|(have H2_:=(Option.bind_some _ _).symm.trans H;rw [hy196];with_reducible exact H2_)|(have H2_:=(Option.bind_some _ _).symm.trans H;with_reducible exact H2_)|with_reducible exact H|(rw [hy196];exact H)|exact H
        have Ny196:=Zz.mk hy196
        clear hy196
        by_cases c11:t193.length+y196.length<8796093022208
        ·rw [if_pos c11] at H
         have LMc11:=Zz.mk c11
         clear c11
         obtain ⟨y199,hy199⟩:∃ y_:List ByteArray,y_=(t193 ++ y196):=⟨_,rfl⟩
         replace H:((some (l0.drop (x5_1:Int).toNat:List ByteArray)).bind fun y202=>(if y199.length+y202.length<8796093022208 then (some (y199 ++ y202)) else (none)))=some r:=by first|(rw [hy199];with_reducible exact H)|(have H2_:=(Option.bind_some _ _).symm.trans H;rw [hy199];with_reducible exact H2_)|(have H2_:=(Option.bind_some _ _).symm.trans H;with_reducible exact H2_)|with_reducible exact H|(rw [hy199];exact H)|exact H
         have Ny199:=Zz.mk hy199
         clear hy199
         have c12b0:=eq_true (of_decide_eq_true (by first|(with_reducible assumption)|assumption):0≤x5_1)
         have c13b0:=eq_true (of_decide_eq_true (by first|(with_reducible assumption)|assumption):x5_1≤(l0.length:Int))
         obtain ⟨y202,hy202⟩:∃ y_:List ByteArray,y_=(l0.drop (x5_1:Int).toNat):=⟨_,rfl⟩
         replace H:(if y199.length+y202.length<8796093022208 then (some (y199 ++ y202)) else (none))=some r:=by first|(rw [hy202];with_reducible exact H)|(have H2_:=(Option.bind_some _ _).symm.trans H;rw [hy202];with_reducible exact H2_)|(have H2_:=(Option.bind_some _ _).symm.trans H;with_reducible exact H2_)|with_reducible exact H|(rw [hy202];exact H)|exact H
         have Ny202:=Zz.mk hy202
         clear hy202
         by_cases c14:y199.length+y202.length<8796093022208
         ·rw [if_pos c14] at H
          have LMc14:=Zz.mk c14
          clear c14
          obtain ⟨y207,hy207⟩:∃ y_:List ByteArray,y_=(y199 ++ y202):=⟨_,rfl⟩
          replace H:(some y207)=some r:=by first|(rw [hy207];with_reducible exact H)|(have H2_:=(Option.bind_some _ _).symm.trans H;rw [hy207];with_reducible exact H2_)|(have H2_:=(Option.bind_some _ _).symm.trans H;with_reducible exact H2_)|with_reducible exact H|(rw [hy207];exact H)|exact H
          have Ny207:=Zz.mk hy207
          clear hy207
          obtain rfl:=Option.some.inj H
          have p185:0≤(x5_1:Int):=of_decide_eq_true (by first|(with_reducible assumption)|assumption)
          have q185:x5_1<(l0.length:Int):=of_decide_eq_true (by first|(with_reducible assumption)|assumption)
          obtain ⟨ad185,e185,hx185_0⟩:=Kd.at_string (Kd.V_reads' HO_0.out).2.2 x5_1 p185 q185
          cases e185
          replace p185:=eq_true p185
          replace q185:=eq_true q185
          try go_wp2_with (first|(go_at_call 68;(with_reducible refine (spec_l2Before.calls k1 (rdOf ByteArray.empty l0 x5_1) a1 false _ A5.out).mono ?_);rintro e w' ⟨rfl,⟨nd,rfl⟩⟩;have p187:0≤(x5_1:Int):=of_decide_eq_true (by first|(with_reducible assumption)|assumption);have q187:x5_1<(l0.length:Int):=of_decide_eq_true (by first|(with_reducible assumption)|assumption);obtain ⟨ad187,e187,hx187_0⟩:=Kd.at_string (Kd.V_reads' HO_0.out).2.2 x5_1 p187 q187;obtain rfl:ad185=ad187:=(by injection e187);replace p187:=eq_true p187;replace q187:=eq_true q187))
          (try (rw [drewN_self wr];generalize hq_:World.drewN wr _=wr;have n0_:Zz (Kd.V Kd.string 9 wr w.heap.size (fun k_=>(P0_ k_∨w.heap.size≤k_)) (.slice (some ad185) l0.length c0) l0):=⟨by rw [← hq_];exact (by (with_reducible repeat (first|apply Kd.V_alloc|apply Kd.V_drewN|apply Kd.V_drew));exact HO_0.out)⟩;have n1_:Zz (Below w.heap.size w wr):=⟨by rw [← hq_];exact (by repeat (first|(with_reducible first|exact HB.out|apply qA|apply qN|apply q1_)|exact HB.out))⟩;clear HO_0 HB hq_;have HO_0:=n0_;have HB:=n1_;clear n0_ n1_))
          have n0_:=Zz.mk (Kd.V_drew HO_0.out)
          have n1_:=Zz.mk (q1_ HB.out)
          revert n0_ n1_
          clear HO_0 HB
          intro HO_0 HB
          have q16:(x5_1:Int)≤((l0.length:Int):Int):=of_decide_eq_true (by first|(with_reducible assumption)|assumption)
          obtain ⟨i016,hi016,_,hsz16,_⟩:=info_parts info9
          have hroom16:l0.length≤c0:=(Kd.V_reads' HO_0.out).2.1
          have hC16:Kd.F Kd.string _ _ (some ad185) l0.length l0:=(Kd.V_at (base:=w.heap.size) HO_0.out).2.2
          have hcut16:=cut_to (P:=Try.prog) 44 9 .i64 Try.underlying44 hi016 (some ad185) l0.length c0 x5_1 (of_decide_eq_true (by first|(with_reducible assumption)|assumption)) q16 hroom16
          have hr16:=Kd.F_take (m:=(x5_1:Int).toNat) hC16 (by omega)
          have hy16:y188.length=(x5_1:Int).toNat:=(by rw [Ny188.out,List.length_take];omega)
          rw [← Ny188.out] at hr16
          rw [← hy16] at hcut16
          have HO192:=Zz.mk (show Kd.V Kd.string 9 _ w.heap.size _ (.slice (some ad185) y188.length c0) y188 from Kd.V_mk (by omega) hr16)
          have HC192:=Zz.mk (show y188.length≤c0 from by omega)
          clear hr16 hC16 hroom16 hi016 hsz16
          have KY16:=Zz.mk hy16
          clear hy16
          replace q16:=eq_true q16
          have q17:(x5_1:Int)≤((l0.length:Int):Int):=of_decide_eq_true (by first|(with_reducible assumption)|assumption)
          obtain ⟨i017,hi017,_,hsz17,_⟩:=info_parts info9
          have hroom17:l0.length≤c0:=(Kd.V_reads' HO_0.out).2.1
          have hC17:Kd.F Kd.string _ _ (some ad185) l0.length l0:=(Kd.V_at (base:=w.heap.size) HO_0.out).2.2
          have q017:(0:Int)≤(x5_1:Int):=of_decide_eq_true (by first|(with_reducible assumption)|assumption)
          have hcut17:=cut_from (P:=Try.prog) 44 9 .i64 Try.underlying44 hi017 1 hsz17 (some ad185) l0.length c0 x5_1 q017 q17
          have hr17:=Kd.F_cut (m:=(x5_1:Int).toNat) (c:=c0) hC17 (by omega) hroom17
          obtain ⟨A17,hA17⟩:∃ A1,A1=(if c0=(x5_1:Int).toNat then (some ad185) else ((some ad185):Option Addr).map (·.add ((x5_1:Int).toNat * 1))):=⟨_,rfl⟩
          obtain ⟨c17,hc17⟩:∃ c1,c1=c0 - (x5_1:Int).toNat:=⟨_,rfl⟩
          have hy17:y202.length=l0.length - (x5_1:Int).toNat:=(by rw [Ny202.out,List.length_drop] <;> omega)
          rw [show (l0).drop (x5_1:Int).toNat=y202 from Ny202.out.symm] at hr17
          replace hr17:Kd.F Kd.string _ _ A17 y202.length y202:=(by rw [hA17];exact hr17)
          rw [← hy17,← hA17,← hc17] at hcut17
          have HO206:=Zz.mk (show Kd.V Kd.string 9 _ w.heap.size _ (.slice A17 y202.length c17) y202 from Kd.V_mk (by rw [hy17,hc17];exact Nat.sub_le_sub_right hroom17 _) hr17)
          have HC206:=Zz.mk (show y202.length≤c17 from by rw [hy17,hc17];exact Nat.sub_le_sub_right hroom17 _)
          clear hr17 hC17 hroom17 hi017 hsz17 hc17
          have KY17:=Zz.mk hy17
          have KA17:=Zz.mk hA17
          clear hy17 hA17
          replace q17:=eq_true q17
          refine start_ (n:=12) (S:=fun w'=>True) (ds:=[]) #[false,false,false,false,false,false,false,false,false,false,false,false] (by kernel_rfl) rfl rfl trivial (fun hHeld=>?_);refine with_tabW spec_l2Put.tab6 spec_l2Put.bits6 (fun HT_ HW_=>?_)
          generalize wr.drew=w15 at HO_0 HB HO192 HO206 hHeld ⊢
          refine pure_ (i:=0) (N:=some 33) (v:=?_) (a':=?_) #[true,false,false,false,false,false,false,false,false,false,false,false] rfl rfl (any_of HT_.out (by kernel_rfl)) (fun _ _ _ h=>h) (Or.inl ⟨by rfl,?_⟩) ?_ ?_
          rotate_left
          ·intro w'
           go_simp
           with_reducible rfl
          rotate_left
          ·simp only [Act.put,List.setIfInBounds_toArray,List.set_cons_zero,List.set_cons_succ,i64_w,i32_w]
           rfl
          refine pure_ (i:=1) (N:=some 34) (v:=?_) (a':=?_) #[true,true,false,false,false,false,false,false,false,false,false,false] rfl rfl (any_of HT_.out (by kernel_rfl)) (fun _ _ _ h=>h) (Or.inl ⟨by rfl,?_⟩) ?_ ?_
          rotate_left
          ·intro w'
           go_simp
           with_reducible rfl
          rotate_left
          ·simp only [Act.put,List.setIfInBounds_toArray,List.set_cons_zero,List.set_cons_succ,i64_w,i32_w]
           rfl
          refine pure_ (i:=2) (N:=some 35) (v:=?_) (a':=?_) #[true,true,true,false,false,false,false,false,false,false,false,false] rfl rfl (any_of HT_.out (by kernel_rfl)) (fun _ _ _ h=>h) (Or.inl ⟨by rfl,?_⟩) ?_ ?_
          rotate_left
          ·intro w'
           go_simp
           with_reducible rfl
          rotate_left
          ·simp only [Act.put,List.setIfInBounds_toArray,List.set_cons_zero,List.set_cons_succ,i64_w,i32_w]
           rfl
          refine pure_ (i:=4) (N:=some 37) (v:=?_) (a':=?_) #[true,true,true,false,true,false,false,false,false,false,false,false] rfl rfl (any_of HT_.out (by kernel_rfl)) (fun _ _ _ h=>h) (Or.inl ⟨by rfl,?_⟩) ?_ ?_
          rotate_left
          ·intro w'
           go_simp
           with_reducible rfl
          rotate_left
          ·simp only [Act.put,List.setIfInBounds_toArray,List.set_cons_zero,List.set_cons_succ,i64_w,i32_w]
           rfl
          refine pure_ (i:=7) (N:=some 40) (v:=?_) (a':=?_) #[true,true,true,false,true,false,false,true,false,false,false,false] rfl rfl (any_of HT_.out (by kernel_rfl)) (fun _ _ _ h=>h) (Or.inl ⟨by rfl,?_⟩) ?_ ?_
          rotate_left
          ·intro w'
           go_simp
           with_reducible rfl
          rotate_left
          ·simp only [Act.put,List.setIfInBounds_toArray,List.set_cons_zero,List.set_cons_succ,i64_w,i32_w]
           rfl
          refine pure_ (i:=8) (N:=some 41) (v:=?_) (a':=?_) #[true,true,true,false,true,false,false,true,true,false,false,false] rfl rfl (any_of HT_.out (by kernel_rfl)) (fun _ _ _ h=>h) (Or.inl ⟨by rfl,?_⟩) ?_ ?_
          rotate_left
          ·intro w'
           go_simp
           with_reducible rfl
          rotate_left
          ·simp only [Act.put,List.setIfInBounds_toArray,List.set_cons_zero,List.set_cons_succ,i64_w,i32_w]
           rfl
          refine pure_ (i:=9) (N:=some 42) (v:=?_) (a':=?_) #[true,true,true,false,true,false,false,true,true,true,false,false] rfl rfl (any_of HT_.out (by kernel_rfl)) (fun _ _ _ h=>h) (Or.inl ⟨by rfl,?_⟩) ?_ ?_
          rotate_left
          ·intro w'
           go_simp
           with_reducible rfl
          rotate_left
          ·simp only [Act.put,List.setIfInBounds_toArray,List.set_cons_zero,List.set_cons_succ,i64_w,i32_w]
           rfl
          refine join_ (σ:=Value × Value) 3 #[true,true,true,true,true,true,false,true,true,true,false,false] (fun s_=>[(36,s_.1),(38,s_.2)]) (fun s_ w'=>(Kd.V Kd.string 9 w' w.heap.size (fun k_=>(P0_ k_∨w.heap.size≤k_)∧some k_ ≠ (s_.1:Value).ownBlock∧some k_ ≠ (s_.2:Value).ownBlock) (.slice (some ad185) y188.length c0) y188)∧(Kd.R Kd.string 9 w' w.heap.size (fun k_=>(w.heap.size≤k_)∧some k_ ≠ (s_.2:Value).ownBlock) s_.1 t193)∧(Kd.R Kd.string 9 w' w.heap.size (fun k_=>(w.heap.size≤k_)∧some k_ ≠ (s_.1:Value).ownBlock) s_.2 y196)∧(Kd.V Kd.string 9 w' w.heap.size (fun k_=>(P0_ k_∨w.heap.size≤k_)∧some k_ ≠ (s_.1:Value).ownBlock∧some k_ ≠ (s_.2:Value).ownBlock) (.slice A17 y202.length c17) y202)∧(Kd.V Kd.string 9 w' w.heap.size (fun k_=>(P0_ k_∨w.heap.size≤k_)∧some k_ ≠ (s_.1:Value).ownBlock∧some k_ ≠ (s_.2:Value).ownBlock) (.slice (some ad185) l0.length c0) l0)∧(Below w.heap.size w w')) ?_ ?_
          rotate_left
          ·intro hCont
           refine two_ (i:=3) (j:=5) (Ni:=some 36) (Nj:=some 38) #[true,true,true,true,true,false,false,true,true,true,false,false] #[true,true,true,false,true,true,false,true,true,true,false,false] rfl rfl rfl rfl (two_of HT_.out (by kernel_rfl)) (by decide) (by decide) (fun K hK=>?_) (fun K hK=>?_)
           ·skip
            refine goes_ Try.func69 (by kernel_rfl) rfl #[.slice (some ad185) y188.length c0] (by rfl) rfl rfl (by (try simp only [List.map_toArray,List.map_cons,List.map_nil]);first|done|rfl|(simp only [List.length_drop,List.length_take];rfl)) ?_
            with_reducible refine (spec_l2Own.calls _ _ y188 t193 _ ?side1 ?side2 A10.out).mono ?_
            (case side1=>exact (Kd.V_reads' HO192.out).2.2)
            (case side2=>exact (Kd.V_reads' HO192.out).2.1)
            rintro e w18 ⟨v194,rfl,ho0,hb⟩
            refine ⟨_,rfl,?_⟩
            have n0_:=Zz.mk (Kd.V_elder' (by (with_reducible repeat (first|apply Kd.V_alloc|apply Kd.V_drewN|apply Kd.V_drew));exact HO_0.out) (Kd.R_base ho0) hb)
            have n1_:=Zz.mk (Kd.V_elder' (by (with_reducible repeat (first|apply Kd.V_alloc|apply Kd.V_drewN|apply Kd.V_drew));exact HO192.out) (Kd.R_base ho0) hb)
            have n2_:=Zz.mk (Kd.V_elder' (by (with_reducible repeat (first|apply Kd.V_alloc|apply Kd.V_drewN|apply Kd.V_drew));exact HO206.out) (Kd.R_base ho0) hb)
            have n3_:=Zz.mk (Kd.R_lower (Kd.R_newM (M:=fun k_=>(w.heap.size≤k_)) ho0 (qZ HB.out) (fun k_ h_=>h_)) (qZ HB.out))
            have n4_:=Zz.mk (qP HB.out hb)
            revert n0_ n1_ n2_ n3_ n4_
            clear HO_0 HO192 HO206 HB
            intro HO_0 HO192 HO206 HO195 HB
            (try clear hb)
            (try clear hb2)
            (try clear hk)
            (try clear hi)
            (try clear ho0)
            refine hK.out _ _ trivial (fun hHeld=>?_)
            clear hK K
            refine norm_ (a':=?_) ?_ ?_
            rotate_left
            ·show Act.put _ (some 36) _=_
             simp only [Act.put,List.setIfInBounds_toArray,List.set_cons_zero,List.set_cons_succ,i64_w,i32_w]
             rfl
            refine one_ (i:=5) (N:=some 38) #[true,true,true,true,true,true,false,true,true,true,false,false] rfl rfl (one_of HT_.out (by kernel_rfl)) (by decide) (fun K hK=>?_)
            refine Kd.R_lit_step Kd.string _ 9 ?hg (N:=38) ?hd (xs:=([a1]:List ByteArray)) (inner:=[.string a1]) (ok:=fun _=>True) (okp:=fun _=>True) ?hr ?hp (fun _ hk=>hk) trivial (Below.refl _ _) (Nat.le_refl _) (by simp) ?_;(case hd=>rfl);(case hg=>rfl);(case hr=>first|(go_simp;done)|(go_simp;rfl));(case hp=>exact (Reps.one (show Kd.M Kd.string _ _ _ a1 [.string a1] from rfl) (Reps.none _ _)))
            intro v197 w19 ho20 hb hg_ hnew_
            clear hg_ hnew_
            (first|rw [← Ny196.out] at ho20|(simp only [Int.reduceToNat] at ho20;rw [← Ny196.out] at ho20))
            have n0_:=Zz.mk (Kd.V_elder' (by (with_reducible repeat (first|apply Kd.V_alloc|apply Kd.V_drewN|apply Kd.V_drew));exact HO_0.out) (Kd.R_base ho20) hb)
            have n1_:=Zz.mk (Kd.V_elder' (by (with_reducible repeat (first|apply Kd.V_alloc|apply Kd.V_drewN|apply Kd.V_drew));exact HO192.out) (Kd.R_base ho20) hb)
            have n2_:=Zz.mk (Kd.V_elder' (by (with_reducible repeat (first|apply Kd.V_alloc|apply Kd.V_drewN|apply Kd.V_drew));exact HO206.out) (Kd.R_base ho20) hb)
            have n3_:=Zz.mk (Kd.R_elder' HO195.out (Kd.R_base ho20) hb)
            have n4_:=Zz.mk (Kd.R_lower (Kd.R_new' (Kd.R_newM (M:=fun k_=>(w.heap.size≤k_)) ho20 (qZ HB.out) (fun k_ h_=>h_)) (Kd.R_lt HO195.out)) (qZ HB.out))
            have n5_:=Zz.mk (qP HB.out hb)
            revert n0_ n1_ n2_ n3_ n4_ n5_
            clear HO_0 HO192 HO206 HO195 HB
            intro HO_0 HO192 HO206 HO195 HO198 HB
            clear hb ho20
            refine hK.out _ _ trivial (fun hHeld=>?_)
            clear hK K
            refine norm_ (a':=?_) ?_ ?_
            rotate_left
            ·show Act.put _ (some 38) _=_
             simp only [Act.put,List.setIfInBounds_toArray,List.set_cons_zero,List.set_cons_succ,i64_w,i32_w]
             rfl
            exact norm_ (by simp only [putAll,Act.put,List.setIfInBounds_toArray,List.set_cons_zero,List.set_cons_succ]) (hCont (v194,v197) _ ⟨(by (with_reducible repeat (first|apply Kd.V_alloc|apply Kd.V_drewN|apply Kd.V_drew));exact Kd.V_mono HO192.out (fun _ hk=>⟨hk.1.1,⟨hk.1.2,hk.2⟩⟩)),(Kd.R_mono HO195.out (fun _ hk=>⟨hk.1.1,hk.2⟩)),(Kd.R_mono HO198.out (fun _ hk=>⟨hk.1.1,hk.2⟩)),(by (with_reducible repeat (first|apply Kd.V_alloc|apply Kd.V_drewN|apply Kd.V_drew));exact Kd.V_mono HO206.out (fun _ hk=>⟨hk.1.1,⟨hk.1.2,hk.2⟩⟩)),(by (with_reducible repeat (first|apply Kd.V_alloc|apply Kd.V_drewN|apply Kd.V_drew));exact Kd.V_mono HO_0.out (fun _ hk=>⟨hk.1.1,⟨hk.1.2,hk.2⟩⟩)),HB.out⟩)
           ·skip
            refine Kd.R_lit_step Kd.string _ 9 ?hg (N:=38) ?hd (xs:=([a1]:List ByteArray)) (inner:=[.string a1]) (ok:=fun _=>True) (okp:=fun _=>True) ?hr ?hp (fun _ hk=>hk) trivial (Below.refl _ _) (Nat.le_refl _) (by simp) ?_;(case hd=>rfl);(case hg=>rfl);(case hr=>first|(go_simp;done)|(go_simp;rfl));(case hp=>exact (Reps.one (show Kd.M Kd.string _ _ _ a1 [.string a1] from rfl) (Reps.none _ _)))
            intro v197 w18 ho19 hb hg_ hnew_
            clear hg_ hnew_
            (first|rw [← Ny196.out] at ho19|(simp only [Int.reduceToNat] at ho19;rw [← Ny196.out] at ho19))
            have n0_:=Zz.mk (Kd.V_elder' (by (with_reducible repeat (first|apply Kd.V_alloc|apply Kd.V_drewN|apply Kd.V_drew));exact HO_0.out) (Kd.R_base ho19) hb)
            have n1_:=Zz.mk (Kd.V_elder' (by (with_reducible repeat (first|apply Kd.V_alloc|apply Kd.V_drewN|apply Kd.V_drew));exact HO192.out) (Kd.R_base ho19) hb)
            have n2_:=Zz.mk (Kd.V_elder' (by (with_reducible repeat (first|apply Kd.V_alloc|apply Kd.V_drewN|apply Kd.V_drew));exact HO206.out) (Kd.R_base ho19) hb)
            have n3_:=Zz.mk (Kd.R_lower (Kd.R_newM (M:=fun k_=>(w.heap.size≤k_)) ho19 (qZ HB.out) (fun k_ h_=>h_)) (qZ HB.out))
            have n4_:=Zz.mk (qP HB.out hb)
            revert n0_ n1_ n2_ n3_ n4_
            clear HO_0 HO192 HO206 HB
            intro HO_0 HO192 HO206 HO198 HB
            clear hb ho19
            refine hK.out _ _ trivial (fun hHeld=>?_)
            clear hK K
            refine norm_ (a':=?_) ?_ ?_
            rotate_left
            ·show Act.put _ (some 38) _=_
             simp only [Act.put,List.setIfInBounds_toArray,List.set_cons_zero,List.set_cons_succ,i64_w,i32_w]
             rfl
            refine one_ (i:=3) (N:=some 36) #[true,true,true,true,true,true,false,true,true,true,false,false] rfl rfl (one_of HT_.out (by kernel_rfl)) (by decide) (fun K hK=>?_)
            refine goes_ Try.func69 (by kernel_rfl) rfl #[.slice (some ad185) y188.length c0] (by rfl) rfl rfl (by (try simp only [List.map_toArray,List.map_cons,List.map_nil]);first|done|rfl|(simp only [List.length_drop,List.length_take];rfl)) ?_
            with_reducible refine (spec_l2Own.calls _ _ y188 t193 _ ?side1 ?side2 A10.out).mono ?_
            (case side1=>exact (Kd.V_reads' HO192.out).2.2)
            (case side2=>exact (Kd.V_reads' HO192.out).2.1)
            rintro e w20 ⟨v194,rfl,ho0,hb⟩
            refine ⟨_,rfl,?_⟩
            have n0_:=Zz.mk (Kd.V_elder' (by (with_reducible repeat (first|apply Kd.V_alloc|apply Kd.V_drewN|apply Kd.V_drew));exact HO_0.out) (Kd.R_base ho0) hb)
            have n1_:=Zz.mk (Kd.V_elder' (by (with_reducible repeat (first|apply Kd.V_alloc|apply Kd.V_drewN|apply Kd.V_drew));exact HO192.out) (Kd.R_base ho0) hb)
            have n2_:=Zz.mk (Kd.V_elder' (by (with_reducible repeat (first|apply Kd.V_alloc|apply Kd.V_drewN|apply Kd.V_drew));exact HO206.out) (Kd.R_base ho0) hb)
            have n3_:=Zz.mk (Kd.R_elder' HO198.out (Kd.R_base ho0) hb)
            have n4_:=Zz.mk (Kd.R_lower (Kd.R_new' (Kd.R_newM (M:=fun k_=>(w.heap.size≤k_)) ho0 (qZ HB.out) (fun k_ h_=>h_)) (Kd.R_lt HO198.out)) (qZ HB.out))
            have n5_:=Zz.mk (qP HB.out hb)
            revert n0_ n1_ n2_ n3_ n4_ n5_
            clear HO_0 HO192 HO206 HO198 HB
            intro HO_0 HO192 HO206 HO198 HO195 HB
            (try clear hb)
            (try clear hb2)
            (try clear hk)
            (try clear hi)
            (try clear ho0)
            refine hK.out _ _ trivial (fun hHeld=>?_)
            clear hK K
            refine norm_ (a':=?_) ?_ ?_
            rotate_left
            ·show Act.put _ (some 36) _=_
             simp only [Act.put,List.setIfInBounds_toArray,List.set_cons_zero,List.set_cons_succ,i64_w,i32_w]
             rfl
            exact norm_ (by simp only [putAll,Act.put,List.setIfInBounds_toArray,List.set_cons_zero,List.set_cons_succ]) (hCont (v194,v197) _ ⟨(by (with_reducible repeat (first|apply Kd.V_alloc|apply Kd.V_drewN|apply Kd.V_drew));exact Kd.V_mono HO192.out (fun _ hk=>⟨hk.1.1,⟨hk.2,hk.1.2⟩⟩)),(Kd.R_mono HO195.out (fun _ hk=>⟨hk.1.1,hk.2⟩)),(Kd.R_mono HO198.out (fun _ hk=>⟨hk.1.1,hk.2⟩)),(by (with_reducible repeat (first|apply Kd.V_alloc|apply Kd.V_drewN|apply Kd.V_drew));exact Kd.V_mono HO206.out (fun _ hk=>⟨hk.1.1,⟨hk.2,hk.1.2⟩⟩)),(by (with_reducible repeat (first|apply Kd.V_alloc|apply Kd.V_drewN|apply Kd.V_drew));exact Kd.V_mono HO_0.out (fun _ hk=>⟨hk.1.1,⟨hk.2,hk.1.2⟩⟩)),HB.out⟩)
          rintro ⟨v194,v197⟩ w21 ⟨h0_,h1_,h2_,h3_,h4_,h5_⟩
          have n0_:Zz (Kd.V Kd.string 9 w21 w.heap.size (fun k_=>(P0_ k_∨w.heap.size≤k_)∧some k_ ≠ (v194:Value).ownBlock∧some k_ ≠ (v197:Value).ownBlock) (.slice (some ad185) y188.length c0) y188):=⟨h0_⟩
          have n1_:Zz (Kd.R Kd.string 9 w21 w.heap.size (fun k_=>(w.heap.size≤k_)∧some k_ ≠ (v197:Value).ownBlock) v194 t193):=⟨h1_⟩
          have n2_:Zz (Kd.R Kd.string 9 w21 w.heap.size (fun k_=>(w.heap.size≤k_)∧some k_ ≠ (v194:Value).ownBlock) v197 y196):=⟨h2_⟩
          have n3_:Zz (Kd.V Kd.string 9 w21 w.heap.size (fun k_=>(P0_ k_∨w.heap.size≤k_)∧some k_ ≠ (v194:Value).ownBlock∧some k_ ≠ (v197:Value).ownBlock) (.slice A17 y202.length c17) y202):=⟨h3_⟩
          have n4_:Zz (Kd.V Kd.string 9 w21 w.heap.size (fun k_=>(P0_ k_∨w.heap.size≤k_)∧some k_ ≠ (v194:Value).ownBlock∧some k_ ≠ (v197:Value).ownBlock) (.slice (some ad185) l0.length c0) l0):=⟨h4_⟩
          have n5_:Zz (Below w.heap.size w w21):=⟨h5_⟩
          clear HO_0
          clear HB
          clear h0_ h1_ h2_ h3_ h4_ h5_
          have HO192:=n0_
          have HO195:=n1_
          have HO198:=n2_
          have HO206:=n3_
          have HO_0:=n4_
          have HB:=n5_
          clear n0_ n1_ n2_ n3_ n4_ n5_
          have hHeld:=trivial
          obtain ⟨Ao23,co23,eo23⟩:=Kd.R_slice HO198.out
          (first|subst eo23|(injection eo23 with f1_ f2_ f3_;have f4_:=f1_.symm;have f5_:=f3_.symm;clear f1_ f2_ f3_;subst f4_;subst f5_))
          refine norm_ (a':=?_) ?_ ?_
          rotate_left
          ·simp only [putAll,Act.put,List.setIfInBounds_toArray,List.set_cons_zero,List.set_cons_succ]
           rfl
          refine one_ (i:=6) (N:=some 39) #[true,true,true,true,true,true,true,true,true,true,false,false] rfl rfl (one_of HT_.out (by kernel_rfl)) (by decide) (fun K hK=>?_)
          refine Kd.R_append_rows_step Kd.string (w0:=w) w.heap.size (by rfl) (.tmp 36) (.tmp 38) 44 9 (.string ⟨#[]⟩) 16 rfl Try.underlying44 info9 rfl (by decide) (by omega) v194 t193 y196 _ _ _ (fun k_=>(w.heap.size≤k_)∧some k_ ≠ (.slice Ao23 y196.length co23:Value).ownBlock) (fun _=>False) rfl rfl ?aO ?aR (fun _ _ h=>h) (fun _ h=>h.elim) ?aF ?aB ?aS ?aL ?_
          (case aR=>repeat (first|exact (Kd.R_reads' HO198.out).2.2|(with_reducible refine Kd.C_alloc ?_ _)|(with_reducible refine Kd.C_drewN ?_ _)|(with_reducible refine Kd.C_drew ?_)))
          (case aB=>exact (by repeat (first|(with_reducible first|exact HB.out|apply qA|apply qN|apply q1_)|exact HB.out)))
          (case aF=>exact (fun k_ hk=>⟨(Nat.le_trans (qZ (by repeat (first|(with_reducible first|exact HB.out|apply qA|apply qN|apply q1_)|exact HB.out))) hk),Kd.fresh' (Kd.R_lt (by (with_reducible repeat first|apply Kd.R_alloc|apply Kd.R_drewN|apply Kd.R_drew);exact HO198.out)) k_ hk⟩))
          (case aO=>exact (by (with_reducible repeat first|apply Kd.R_alloc|apply Kd.R_drewN|apply Kd.R_drew);exact HO195.out))
          (case aS=>exact (qZ (by repeat (first|(with_reducible first|exact HB.out|apply qA|apply qN|apply q1_)|exact HB.out))))
          (case aL=>have:=LMc11.out;omega)
          intro v200 w22 ho hb hg hat
          rw [← Ny199.out] at ho
          have n0_:=Zz.mk (Kd.V_afterv (ok:=(fun k_=>(P0_ k_∨w.heap.size≤k_)∧some k_ ≠ (.slice Ao23 y196.length co23:Value).ownBlock)) (by (with_reducible repeat (first|apply Kd.V_alloc|apply Kd.V_drewN|apply Kd.V_drew));exact Kd.V_mono HO_0.out (fun _ hk=>⟨⟨hk.1,hk.2.2⟩,hk.2.1⟩)) hg hat)
          have n1_:=Zz.mk (Kd.V_afterv (ok:=(fun k_=>(P0_ k_∨w.heap.size≤k_)∧some k_ ≠ (.slice Ao23 y196.length co23:Value).ownBlock)) (by (with_reducible repeat (first|apply Kd.V_alloc|apply Kd.V_drewN|apply Kd.V_drew));exact Kd.V_mono HO192.out (fun _ hk=>⟨⟨hk.1,hk.2.2⟩,hk.2.1⟩)) hg hat)
          have n2_:=Zz.mk (Kd.V_afterv (ok:=(fun k_=>(P0_ k_∨w.heap.size≤k_)∧some k_ ≠ (.slice Ao23 y196.length co23:Value).ownBlock)) (by (with_reducible repeat (first|apply Kd.V_alloc|apply Kd.V_drewN|apply Kd.V_drew));exact Kd.V_mono HO206.out (fun _ hk=>⟨⟨hk.1,hk.2.2⟩,hk.2.1⟩)) hg hat)
          have n3_:=Zz.mk (Kd.R_after (ok:=(fun k_=>(w.heap.size≤k_))) HO198.out hg hat)
          have n4_:=Zz.mk (hb)
          have n5_:=Zz.mk (ho)
          revert n0_ n1_ n2_ n3_ n4_ n5_
          clear HO_0 HO192 HO206 HO198 HB HO195
          intro HO_0 HO192 HO206 HO198 HB HO201
          clear ho hb hg hat
          refine hK.out _ _ trivial (fun hHeld=>?_)
          clear hK K
          refine norm_ (a':=?_) ?_ ?_
          rotate_left
          ·show Act.put _ (some 39) _=_
           simp only [Act.put,List.setIfInBounds_toArray,List.set_cons_zero,List.set_cons_succ,i64_w,i32_w]
           rfl
          refine one_ (i:=10) (N:=some 43) #[true,true,true,true,true,true,true,true,true,true,true,false] rfl rfl (one_of HT_.out (by kernel_rfl)) (by decide) (fun K hK=>?_)
          refine Kd.R_append_rows_step Kd.string (w0:=w) w.heap.size (by rfl) (.tmp 39) (.tmp 42) 44 9 (.string ⟨#[]⟩) 16 rfl Try.underlying44 info9 rfl (by decide) (by omega) v200 y199 y202 _ _ _ (fun k_=>(w.heap.size≤k_)∧some k_ ≠ (.slice Ao23 y196.length co23:Value).ownBlock) (fun _=>False) rfl rfl ?aO ?aR (fun _ _ h=>h) (fun _ h=>h.elim) ?aF ?aB ?aS ?aL ?_
          (case aR=>repeat (first|exact (Kd.V_reads' HO206.out).2.2|(with_reducible refine Kd.C_alloc ?_ _)|(with_reducible refine Kd.C_drewN ?_ _)|(with_reducible refine Kd.C_drew ?_)))
          (case aB=>exact (by repeat (first|(with_reducible first|exact HB.out|apply qA|apply qN|apply q1_)|exact HB.out)))
          (case aF=>exact (fun k_ hk=>⟨(Nat.le_trans (qZ (by repeat (first|(with_reducible first|exact HB.out|apply qA|apply qN|apply q1_)|exact HB.out))) hk),Kd.fresh' (Kd.R_lt (by (with_reducible repeat first|apply Kd.R_alloc|apply Kd.R_drewN|apply Kd.R_drew);exact HO198.out)) k_ hk⟩))
          (case aO=>exact (by (with_reducible repeat first|apply Kd.R_alloc|apply Kd.R_drewN|apply Kd.R_drew);exact HO201.out))
          (case aS=>exact (qZ (by repeat (first|(with_reducible first|exact HB.out|apply qA|apply qN|apply q1_)|exact HB.out))))
          (case aL=>have:=LMc14.out;omega)
          intro v208 w24 ho hb hg hat
          rw [← Ny207.out] at ho
          have n0_:=Zz.mk (Kd.V_afterv (ok:=(fun k_=>(P0_ k_∨w.heap.size≤k_)∧some k_ ≠ (.slice Ao23 y196.length co23:Value).ownBlock)) (by (with_reducible repeat (first|apply Kd.V_alloc|apply Kd.V_drewN|apply Kd.V_drew));exact HO_0.out) hg hat)
          have n1_:=Zz.mk (Kd.V_afterv (ok:=(fun k_=>(P0_ k_∨w.heap.size≤k_)∧some k_ ≠ (.slice Ao23 y196.length co23:Value).ownBlock)) (by (with_reducible repeat (first|apply Kd.V_alloc|apply Kd.V_drewN|apply Kd.V_drew));exact HO192.out) hg hat)
          have n2_:=Zz.mk (Kd.V_afterv (ok:=(fun k_=>(P0_ k_∨w.heap.size≤k_)∧some k_ ≠ (.slice Ao23 y196.length co23:Value).ownBlock)) (by (with_reducible repeat (first|apply Kd.V_alloc|apply Kd.V_drewN|apply Kd.V_drew));exact HO206.out) hg hat)
          have n3_:=Zz.mk (Kd.R_after (ok:=(fun k_=>(w.heap.size≤k_))) HO198.out hg hat)
          have n4_:=Zz.mk (hb)
          have n5_:=Zz.mk (ho)
          revert n0_ n1_ n2_ n3_ n4_ n5_
          clear HO_0 HO192 HO206 HO198 HB HO201
          intro HO_0 HO192 HO206 HO198 HB HO209
          clear ho hb hg hat
          refine hK.out _ _ trivial (fun hHeld=>?_)
          clear hK K
          refine norm_ (a':=?_) ?_ ?_
          rotate_left
          ·show Act.put _ (some 43) _=_
           simp only [Act.put,List.setIfInBounds_toArray,List.set_cons_zero,List.set_cons_succ,i64_w,i32_w]
           rfl
          refine pure_ (i:=11) (N:=some 4) (v:=?_) (a':=?_) #[true,true,true,true,true,true,true,true,true,true,true,true] rfl rfl (any_of HT_.out (by kernel_rfl)) (fun _ _ _ h=>h) (Or.inl ⟨by rfl,?_⟩) ?_ ?_
          rotate_left
          ·intro w'
           go_simp
           with_reducible rfl
          rotate_left
          ·simp only [Act.put,List.setIfInBounds_toArray,List.set_cons_zero,List.set_cons_succ,i64_w,i32_w]
           rfl
          refine done_ (done_of HT_.out (by kernel_rfl)) ?_
          try go_wp2
          go_ret
          exact ⟨_,by first|rfl|(simp [errW_none,errW_some] <;> rfl)|(simp [*,errW_none,errW_some] <;> rfl),Kd.V_mono (Kd.R_V (by (with_reducible repeat first|apply Kd.R_alloc|apply Kd.R_drewN|apply Kd.R_drew);exact Kd.R_mono HO209.out (fun _ hk=>hk.1))) (fun k_ hk=>by first|exact ⟨(.inr (hk.1)),hk.2⟩|exact (.inr (hk))),by repeat (first|(with_reducible first|exact HB.out|apply qA|apply qN|apply q1_)|exact HB.out)⟩
         ·rw [if_neg c14] at H
          exact absurd H (by simp)
        ·rw [if_neg c11] at H
         exact absurd H (by simp)
       ·rw [if_neg c9] at H
        exact absurd H (by simp)
    ·rw [if_neg c4] at H
     exact absurd H (by simp)
   ·rw [if_neg c3] at H
    have c3b0:decide (x5_1<(l0.length:Int))=false:=decide_eq_false c3
    clear c3
    by_cases c25:0≤x5_1
    ·rw [if_pos c25] at H
     have c25b0:=eq_true c25
     have c25b1:decide (0≤x5_1)=true:=decide_eq_true c25
     clear c25
     by_cases c26:x5_1≤(l0.length:Int)
     ·rw [if_pos c26] at H
      have c26b0:=eq_true c26
      have c26b1:decide (x5_1≤(l0.length:Int))=true:=decide_eq_true c26
      clear c26
      obtain ⟨y210,hy210⟩:∃ y_:List ByteArray,y_=(l0.take (x5_1:Int).toNat):=⟨_,rfl⟩
      replace H:((spec_l2Own.f y210).bind fun t215=>((some (([a1]:List ByteArray):List ByteArray)).bind fun y218=>(if t215.length+y218.length<8796093022208 then ((some (t215 ++ y218:List ByteArray)).bind fun y221=>((some (l0.drop (x5_1:Int).toNat:List ByteArray)).bind fun y224=>(if y221.length+y224.length<8796093022208 then (some (y221 ++ y224)) else (none)))) else (none))))=some r:=by first|(rw [hy210];with_reducible exact H)|(have H2_:=(Option.bind_some _ _).symm.trans H;rw [hy210];with_reducible exact H2_)|(have H2_:=(Option.bind_some _ _).symm.trans H;with_reducible exact H2_)|with_reducible exact H|(rw [hy210];exact H)|exact H
      have Ny210:=Zz.mk hy210
      clear hy210
      replace H:=Option.bind_eq_some_iff.mp H
      obtain ⟨t215,A270,H⟩:=H
      replace H:((some (([a1]:List ByteArray):List ByteArray)).bind fun y218=>(if t215.length+y218.length<8796093022208 then ((some (t215 ++ y218:List ByteArray)).bind fun y221=>((some (l0.drop (x5_1:Int).toNat:List ByteArray)).bind fun y224=>(if y221.length+y224.length<8796093022208 then (some (y221 ++ y224)) else (none)))) else (none)))=some r:=H
      have A27:=Zz.mk A270
      clear A270
      obtain ⟨y218,hy218⟩:∃ y_:List ByteArray,y_=(([a1]:List ByteArray)):=⟨_,rfl⟩
      replace H:(if t215.length+y218.length<8796093022208 then ((some (t215 ++ y218:List ByteArray)).bind fun y221=>((some (l0.drop (x5_1:Int).toNat:List ByteArray)).bind fun y224=>(if y221.length+y224.length<8796093022208 then (some (y221 ++ y224)) else (none)))) else (none))=some r:=by first|(rw [hy218];with_reducible exact H)|(have H2_:=(Option.bind_some _ _).symm.trans H;rw [hy218];with_reducible exact H2_)|(have H2_:=(Option.bind_some _ _).symm.trans H;with_reducible exact H2_)|with_reducible exact H|(rw [hy218];exact H)|exact H
      have Ny218:=Zz.mk hy218
      clear hy218
      by_cases c28:t215.length+y218.length<8796093022208
      ·rw [if_pos c28] at H
       have LMc28:=Zz.mk c28
       clear c28
       obtain ⟨y221,hy221⟩:∃ y_:List ByteArray,y_=(t215 ++ y218):=⟨_,rfl⟩
       replace H:((some (l0.drop (x5_1:Int).toNat:List ByteArray)).bind fun y224=>(if y221.length+y224.length<8796093022208 then (some (y221 ++ y224)) else (none)))=some r:=by first|(rw [hy221];with_reducible exact H)|(have H2_:=(Option.bind_some _ _).symm.trans H;rw [hy221];with_reducible exact H2_)|(have H2_:=(Option.bind_some _ _).symm.trans H;with_reducible exact H2_)|with_reducible exact H|(rw [hy221];exact H)|exact H
       have Ny221:=Zz.mk hy221
       clear hy221
       have c29b0:=eq_true (of_decide_eq_true (by first|(with_reducible assumption)|assumption):0≤x5_1)
       have c30b0:=eq_true (of_decide_eq_true (by first|(with_reducible assumption)|assumption):x5_1≤(l0.length:Int))
       obtain ⟨y224,hy224⟩:∃ y_:List ByteArray,y_=(l0.drop (x5_1:Int).toNat):=⟨_,rfl⟩
       replace H:(if y221.length+y224.length<8796093022208 then (some (y221 ++ y224)) else (none))=some r:=by first|(rw [hy224];with_reducible exact H)|(have H2_:=(Option.bind_some _ _).symm.trans H;rw [hy224];with_reducible exact H2_)|(have H2_:=(Option.bind_some _ _).symm.trans H;with_reducible exact H2_)|with_reducible exact H|(rw [hy224];exact H)|exact H
       have Ny224:=Zz.mk hy224
       clear hy224
       by_cases c31:y221.length+y224.length<8796093022208
       ·rw [if_pos c31] at H
        have LMc31:=Zz.mk c31
        clear c31
        obtain ⟨y229,hy229⟩:∃ y_:List ByteArray,y_=(y221 ++ y224):=⟨_,rfl⟩
        replace H:(some y229)=some r:=by first|(rw [hy229];with_reducible exact H)|(have H2_:=(Option.bind_some _ _).symm.trans H;rw [hy229];with_reducible exact H2_)|(have H2_:=(Option.bind_some _ _).symm.trans H;with_reducible exact H2_)|with_reducible exact H|(rw [hy229];exact H)|exact H
        have Ny229:=Zz.mk hy229
        clear hy229
        obtain rfl:=Option.some.inj H
        try go_wp2
        have n0_:=Zz.mk (Kd.V_drew HO_0.out)
        have n1_:=Zz.mk (q1_ HB.out)
        revert n0_ n1_
        clear HO_0 HB
        intro HO_0 HB
        have q33:(x5_1:Int)≤((l0.length:Int):Int):=of_decide_eq_true (by first|(with_reducible assumption)|assumption)
        obtain ⟨i033,hi033,_,hsz33,_⟩:=info_parts info9
        have hroom33:l0.length≤c0:=(Kd.V_reads' HO_0.out).2.1
        have hC33:Kd.F Kd.string _ _ A0 l0.length l0:=(Kd.V_at (base:=w.heap.size) HO_0.out).2.2
        have hcut33:=cut_to (P:=Try.prog) 44 9 .i64 Try.underlying44 hi033 A0 l0.length c0 x5_1 (of_decide_eq_true (by first|(with_reducible assumption)|assumption)) q33 hroom33
        have hr33:=Kd.F_take (m:=(x5_1:Int).toNat) hC33 (by omega)
        have hy33:y210.length=(x5_1:Int).toNat:=(by rw [Ny210.out,List.length_take];omega)
        rw [← Ny210.out] at hr33
        rw [← hy33] at hcut33
        have HO214:=Zz.mk (show Kd.V Kd.string 9 _ w.heap.size _ (.slice A0 y210.length c0) y210 from Kd.V_mk (by omega) hr33)
        have HC214:=Zz.mk (show y210.length≤c0 from by omega)
        clear hr33 hC33 hroom33 hi033 hsz33
        have KY33:=Zz.mk hy33
        clear hy33
        replace q33:=eq_true q33
        have q34:(x5_1:Int)≤((l0.length:Int):Int):=of_decide_eq_true (by first|(with_reducible assumption)|assumption)
        obtain ⟨i034,hi034,_,hsz34,_⟩:=info_parts info9
        have hroom34:l0.length≤c0:=(Kd.V_reads' HO_0.out).2.1
        have hC34:Kd.F Kd.string _ _ A0 l0.length l0:=(Kd.V_at (base:=w.heap.size) HO_0.out).2.2
        have q034:(0:Int)≤(x5_1:Int):=of_decide_eq_true (by first|(with_reducible assumption)|assumption)
        have hcut34:=cut_from (P:=Try.prog) 44 9 .i64 Try.underlying44 hi034 1 hsz34 A0 l0.length c0 x5_1 q034 q34
        have hr34:=Kd.F_cut (m:=(x5_1:Int).toNat) (c:=c0) hC34 (by omega) hroom34
        obtain ⟨A34,hA34⟩:∃ A1,A1=(if c0=(x5_1:Int).toNat then A0 else (A0:Option Addr).map (·.add ((x5_1:Int).toNat * 1))):=⟨_,rfl⟩
        obtain ⟨c34,hc34⟩:∃ c1,c1=c0 - (x5_1:Int).toNat:=⟨_,rfl⟩
        have hy34:y224.length=l0.length - (x5_1:Int).toNat:=(by rw [Ny224.out,List.length_drop] <;> omega)
        rw [show (l0).drop (x5_1:Int).toNat=y224 from Ny224.out.symm] at hr34
        replace hr34:Kd.F Kd.string _ _ A34 y224.length y224:=(by rw [hA34];exact hr34)
        rw [← hy34,← hA34,← hc34] at hcut34
        have HO228:=Zz.mk (show Kd.V Kd.string 9 _ w.heap.size _ (.slice A34 y224.length c34) y224 from Kd.V_mk (by rw [hy34,hc34];exact Nat.sub_le_sub_right hroom34 _) hr34)
        have HC228:=Zz.mk (show y224.length≤c34 from by rw [hy34,hc34];exact Nat.sub_le_sub_right hroom34 _)
        clear hr34 hC34 hroom34 hi034 hsz34 hc34
        have KY34:=Zz.mk hy34
        have KA34:=Zz.mk hA34
        clear hy34 hA34
        replace q34:=eq_true q34
        refine start_ (n:=12) (S:=fun w'=>True) (ds:=[]) #[false,false,false,false,false,false,false,false,false,false,false,false] (by kernel_rfl) rfl rfl trivial (fun hHeld=>?_);refine with_tabW spec_l2Put.tab6 spec_l2Put.bits6 (fun HT_ HW_=>?_)
        generalize wr.drew=w32 at HO_0 HB HO214 HO228 hHeld ⊢
        refine pure_ (i:=0) (N:=some 33) (v:=?_) (a':=?_) #[true,false,false,false,false,false,false,false,false,false,false,false] rfl rfl (any_of HT_.out (by kernel_rfl)) (fun _ _ _ h=>h) (Or.inl ⟨by rfl,?_⟩) ?_ ?_
        rotate_left
        ·intro w'
         go_simp
         with_reducible rfl
        rotate_left
        ·simp only [Act.put,List.setIfInBounds_toArray,List.set_cons_zero,List.set_cons_succ,i64_w,i32_w]
         rfl
        refine pure_ (i:=1) (N:=some 34) (v:=?_) (a':=?_) #[true,true,false,false,false,false,false,false,false,false,false,false] rfl rfl (any_of HT_.out (by kernel_rfl)) (fun _ _ _ h=>h) (Or.inl ⟨by rfl,?_⟩) ?_ ?_
        rotate_left
        ·intro w'
         go_simp
         with_reducible rfl
        rotate_left
        ·simp only [Act.put,List.setIfInBounds_toArray,List.set_cons_zero,List.set_cons_succ,i64_w,i32_w]
         rfl
        refine pure_ (i:=2) (N:=some 35) (v:=?_) (a':=?_) #[true,true,true,false,false,false,false,false,false,false,false,false] rfl rfl (any_of HT_.out (by kernel_rfl)) (fun _ _ _ h=>h) (Or.inl ⟨by rfl,?_⟩) ?_ ?_
        rotate_left
        ·intro w'
         go_simp
         with_reducible rfl
        rotate_left
        ·simp only [Act.put,List.setIfInBounds_toArray,List.set_cons_zero,List.set_cons_succ,i64_w,i32_w]
         rfl
        refine pure_ (i:=4) (N:=some 37) (v:=?_) (a':=?_) #[true,true,true,false,true,false,false,false,false,false,false,false] rfl rfl (any_of HT_.out (by kernel_rfl)) (fun _ _ _ h=>h) (Or.inl ⟨by rfl,?_⟩) ?_ ?_
        rotate_left
        ·intro w'
         go_simp
         with_reducible rfl
        rotate_left
        ·simp only [Act.put,List.setIfInBounds_toArray,List.set_cons_zero,List.set_cons_succ,i64_w,i32_w]
         rfl
        refine pure_ (i:=7) (N:=some 40) (v:=?_) (a':=?_) #[true,true,true,false,true,false,false,true,false,false,false,false] rfl rfl (any_of HT_.out (by kernel_rfl)) (fun _ _ _ h=>h) (Or.inl ⟨by rfl,?_⟩) ?_ ?_
        rotate_left
        ·intro w'
         go_simp
         with_reducible rfl
        rotate_left
        ·simp only [Act.put,List.setIfInBounds_toArray,List.set_cons_zero,List.set_cons_succ,i64_w,i32_w]
         rfl
        refine pure_ (i:=8) (N:=some 41) (v:=?_) (a':=?_) #[true,true,true,false,true,false,false,true,true,false,false,false] rfl rfl (any_of HT_.out (by kernel_rfl)) (fun _ _ _ h=>h) (Or.inl ⟨by rfl,?_⟩) ?_ ?_
        rotate_left
        ·intro w'
         go_simp
         with_reducible rfl
        rotate_left
        ·simp only [Act.put,List.setIfInBounds_toArray,List.set_cons_zero,List.set_cons_succ,i64_w,i32_w]
         rfl
        refine pure_ (i:=9) (N:=some 42) (v:=?_) (a':=?_) #[true,true,true,false,true,false,false,true,true,true,false,false] rfl rfl (any_of HT_.out (by kernel_rfl)) (fun _ _ _ h=>h) (Or.inl ⟨by rfl,?_⟩) ?_ ?_
        rotate_left
        ·intro w'
         go_simp
         with_reducible rfl
        rotate_left
        ·simp only [Act.put,List.setIfInBounds_toArray,List.set_cons_zero,List.set_cons_succ,i64_w,i32_w]
         rfl
        refine join_ (σ:=Value × Value) 3 #[true,true,true,true,true,true,false,true,true,true,false,false] (fun s_=>[(36,s_.1),(38,s_.2)]) (fun s_ w'=>(Kd.V Kd.string 9 w' w.heap.size (fun k_=>(P0_ k_∨w.heap.size≤k_)∧some k_ ≠ (s_.1:Value).ownBlock∧some k_ ≠ (s_.2:Value).ownBlock) (.slice A0 y210.length c0) y210)∧(Kd.R Kd.string 9 w' w.heap.size (fun k_=>(w.heap.size≤k_)∧some k_ ≠ (s_.2:Value).ownBlock) s_.1 t215)∧(Kd.R Kd.string 9 w' w.heap.size (fun k_=>(w.heap.size≤k_)∧some k_ ≠ (s_.1:Value).ownBlock) s_.2 y218)∧(Kd.V Kd.string 9 w' w.heap.size (fun k_=>(P0_ k_∨w.heap.size≤k_)∧some k_ ≠ (s_.1:Value).ownBlock∧some k_ ≠ (s_.2:Value).ownBlock) (.slice A34 y224.length c34) y224)∧(Kd.V Kd.string 9 w' w.heap.size (fun k_=>(P0_ k_∨w.heap.size≤k_)∧some k_ ≠ (s_.1:Value).ownBlock∧some k_ ≠ (s_.2:Value).ownBlock) (.slice A0 l0.length c0) l0)∧(Below w.heap.size w w')) ?_ ?_
        rotate_left
        ·intro hCont
         refine two_ (i:=3) (j:=5) (Ni:=some 36) (Nj:=some 38) #[true,true,true,true,true,false,false,true,true,true,false,false] #[true,true,true,false,true,true,false,true,true,true,false,false] rfl rfl rfl rfl (two_of HT_.out (by kernel_rfl)) (by decide) (by decide) (fun K hK=>?_) (fun K hK=>?_)
         ·skip
          refine goes_ Try.func69 (by kernel_rfl) rfl #[.slice A0 y210.length c0] (by rfl) rfl rfl (by (try simp only [List.map_toArray,List.map_cons,List.map_nil]);first|done|rfl|(simp only [List.length_drop,List.length_take];rfl)) ?_
          with_reducible refine (spec_l2Own.calls _ _ y210 t215 _ ?side1 ?side2 A27.out).mono ?_
          (case side1=>exact (Kd.V_reads' HO214.out).2.2)
          (case side2=>exact (Kd.V_reads' HO214.out).2.1)
          rintro e w35 ⟨v216,rfl,ho0,hb⟩
          refine ⟨_,rfl,?_⟩
          have n0_:=Zz.mk (Kd.V_elder' (by (with_reducible repeat (first|apply Kd.V_alloc|apply Kd.V_drewN|apply Kd.V_drew));exact HO_0.out) (Kd.R_base ho0) hb)
          have n1_:=Zz.mk (Kd.V_elder' (by (with_reducible repeat (first|apply Kd.V_alloc|apply Kd.V_drewN|apply Kd.V_drew));exact HO214.out) (Kd.R_base ho0) hb)
          have n2_:=Zz.mk (Kd.V_elder' (by (with_reducible repeat (first|apply Kd.V_alloc|apply Kd.V_drewN|apply Kd.V_drew));exact HO228.out) (Kd.R_base ho0) hb)
          have n3_:=Zz.mk (Kd.R_lower (Kd.R_newM (M:=fun k_=>(w.heap.size≤k_)) ho0 (qZ HB.out) (fun k_ h_=>h_)) (qZ HB.out))
          have n4_:=Zz.mk (qP HB.out hb)
          revert n0_ n1_ n2_ n3_ n4_
          clear HO_0 HO214 HO228 HB
          intro HO_0 HO214 HO228 HO217 HB
          (try clear hb)
          (try clear hb2)
          (try clear hk)
          (try clear hi)
          (try clear ho0)
          refine hK.out _ _ trivial (fun hHeld=>?_)
          clear hK K
          refine norm_ (a':=?_) ?_ ?_
          rotate_left
          ·show Act.put _ (some 36) _=_
           simp only [Act.put,List.setIfInBounds_toArray,List.set_cons_zero,List.set_cons_succ,i64_w,i32_w]
           rfl
          refine one_ (i:=5) (N:=some 38) #[true,true,true,true,true,true,false,true,true,true,false,false] rfl rfl (one_of HT_.out (by kernel_rfl)) (by decide) (fun K hK=>?_)
          refine Kd.R_lit_step Kd.string _ 9 ?hg (N:=38) ?hd (xs:=([a1]:List ByteArray)) (inner:=[.string a1]) (ok:=fun _=>True) (okp:=fun _=>True) ?hr ?hp (fun _ hk=>hk) trivial (Below.refl _ _) (Nat.le_refl _) (by simp) ?_;(case hd=>rfl);(case hg=>rfl);(case hr=>first|(go_simp;done)|(go_simp;rfl));(case hp=>exact (Reps.one (show Kd.M Kd.string _ _ _ a1 [.string a1] from rfl) (Reps.none _ _)))
          intro v219 w36 ho37 hb hg_ hnew_
          clear hg_ hnew_
          (first|rw [← Ny218.out] at ho37|(simp only [Int.reduceToNat] at ho37;rw [← Ny218.out] at ho37))
          have n0_:=Zz.mk (Kd.V_elder' (by (with_reducible repeat (first|apply Kd.V_alloc|apply Kd.V_drewN|apply Kd.V_drew));exact HO_0.out) (Kd.R_base ho37) hb)
          have n1_:=Zz.mk (Kd.V_elder' (by (with_reducible repeat (first|apply Kd.V_alloc|apply Kd.V_drewN|apply Kd.V_drew));exact HO214.out) (Kd.R_base ho37) hb)
          have n2_:=Zz.mk (Kd.V_elder' (by (with_reducible repeat (first|apply Kd.V_alloc|apply Kd.V_drewN|apply Kd.V_drew));exact HO228.out) (Kd.R_base ho37) hb)
          have n3_:=Zz.mk (Kd.R_elder' HO217.out (Kd.R_base ho37) hb)
          have n4_:=Zz.mk (Kd.R_lower (Kd.R_new' (Kd.R_newM (M:=fun k_=>(w.heap.size≤k_)) ho37 (qZ HB.out) (fun k_ h_=>h_)) (Kd.R_lt HO217.out)) (qZ HB.out))
          have n5_:=Zz.mk (qP HB.out hb)
          revert n0_ n1_ n2_ n3_ n4_ n5_
          clear HO_0 HO214 HO228 HO217 HB
          intro HO_0 HO214 HO228 HO217 HO220 HB
          clear hb ho37
          refine hK.out _ _ trivial (fun hHeld=>?_)
          clear hK K
          refine norm_ (a':=?_) ?_ ?_
          rotate_left
          ·show Act.put _ (some 38) _=_
           simp only [Act.put,List.setIfInBounds_toArray,List.set_cons_zero,List.set_cons_succ,i64_w,i32_w]
           rfl
          exact norm_ (by simp only [putAll,Act.put,List.setIfInBounds_toArray,List.set_cons_zero,List.set_cons_succ]) (hCont (v216,v219) _ ⟨(by (with_reducible repeat (first|apply Kd.V_alloc|apply Kd.V_drewN|apply Kd.V_drew));exact Kd.V_mono HO214.out (fun _ hk=>⟨hk.1.1,⟨hk.1.2,hk.2⟩⟩)),(Kd.R_mono HO217.out (fun _ hk=>⟨hk.1.1,hk.2⟩)),(Kd.R_mono HO220.out (fun _ hk=>⟨hk.1.1,hk.2⟩)),(by (with_reducible repeat (first|apply Kd.V_alloc|apply Kd.V_drewN|apply Kd.V_drew));exact Kd.V_mono HO228.out (fun _ hk=>⟨hk.1.1,⟨hk.1.2,hk.2⟩⟩)),(by (with_reducible repeat (first|apply Kd.V_alloc|apply Kd.V_drewN|apply Kd.V_drew));exact Kd.V_mono HO_0.out (fun _ hk=>⟨hk.1.1,⟨hk.1.2,hk.2⟩⟩)),HB.out⟩)
         ·skip
          refine Kd.R_lit_step Kd.string _ 9 ?hg (N:=38) ?hd (xs:=([a1]:List ByteArray)) (inner:=[.string a1]) (ok:=fun _=>True) (okp:=fun _=>True) ?hr ?hp (fun _ hk=>hk) trivial (Below.refl _ _) (Nat.le_refl _) (by simp) ?_;(case hd=>rfl);(case hg=>rfl);(case hr=>first|(go_simp;done)|(go_simp;rfl));(case hp=>exact (Reps.one (show Kd.M Kd.string _ _ _ a1 [.string a1] from rfl) (Reps.none _ _)))
          intro v219 w35 ho36 hb hg_ hnew_
          clear hg_ hnew_
          (first|rw [← Ny218.out] at ho36|(simp only [Int.reduceToNat] at ho36;rw [← Ny218.out] at ho36))
          have n0_:=Zz.mk (Kd.V_elder' (by (with_reducible repeat (first|apply Kd.V_alloc|apply Kd.V_drewN|apply Kd.V_drew));exact HO_0.out) (Kd.R_base ho36) hb)
          have n1_:=Zz.mk (Kd.V_elder' (by (with_reducible repeat (first|apply Kd.V_alloc|apply Kd.V_drewN|apply Kd.V_drew));exact HO214.out) (Kd.R_base ho36) hb)
          have n2_:=Zz.mk (Kd.V_elder' (by (with_reducible repeat (first|apply Kd.V_alloc|apply Kd.V_drewN|apply Kd.V_drew));exact HO228.out) (Kd.R_base ho36) hb)
          have n3_:=Zz.mk (Kd.R_lower (Kd.R_newM (M:=fun k_=>(w.heap.size≤k_)) ho36 (qZ HB.out) (fun k_ h_=>h_)) (qZ HB.out))
          have n4_:=Zz.mk (qP HB.out hb)
          revert n0_ n1_ n2_ n3_ n4_
          clear HO_0 HO214 HO228 HB
          intro HO_0 HO214 HO228 HO220 HB
          clear hb ho36
          refine hK.out _ _ trivial (fun hHeld=>?_)
          clear hK K
          refine norm_ (a':=?_) ?_ ?_
          rotate_left
          ·show Act.put _ (some 38) _=_
           simp only [Act.put,List.setIfInBounds_toArray,List.set_cons_zero,List.set_cons_succ,i64_w,i32_w]
           rfl
          refine one_ (i:=3) (N:=some 36) #[true,true,true,true,true,true,false,true,true,true,false,false] rfl rfl (one_of HT_.out (by kernel_rfl)) (by decide) (fun K hK=>?_)
          refine goes_ Try.func69 (by kernel_rfl) rfl #[.slice A0 y210.length c0] (by rfl) rfl rfl (by (try simp only [List.map_toArray,List.map_cons,List.map_nil]);first|done|rfl|(simp only [List.length_drop,List.length_take];rfl)) ?_
          with_reducible refine (spec_l2Own.calls _ _ y210 t215 _ ?side1 ?side2 A27.out).mono ?_
          (case side1=>exact (Kd.V_reads' HO214.out).2.2)
          (case side2=>exact (Kd.V_reads' HO214.out).2.1)
          rintro e w37 ⟨v216,rfl,ho0,hb⟩
          refine ⟨_,rfl,?_⟩
          have n0_:=Zz.mk (Kd.V_elder' (by (with_reducible repeat (first|apply Kd.V_alloc|apply Kd.V_drewN|apply Kd.V_drew));exact HO_0.out) (Kd.R_base ho0) hb)
          have n1_:=Zz.mk (Kd.V_elder' (by (with_reducible repeat (first|apply Kd.V_alloc|apply Kd.V_drewN|apply Kd.V_drew));exact HO214.out) (Kd.R_base ho0) hb)
          have n2_:=Zz.mk (Kd.V_elder' (by (with_reducible repeat (first|apply Kd.V_alloc|apply Kd.V_drewN|apply Kd.V_drew));exact HO228.out) (Kd.R_base ho0) hb)
          have n3_:=Zz.mk (Kd.R_elder' HO220.out (Kd.R_base ho0) hb)
          have n4_:=Zz.mk (Kd.R_lower (Kd.R_new' (Kd.R_newM (M:=fun k_=>(w.heap.size≤k_)) ho0 (qZ HB.out) (fun k_ h_=>h_)) (Kd.R_lt HO220.out)) (qZ HB.out))
          have n5_:=Zz.mk (qP HB.out hb)
          revert n0_ n1_ n2_ n3_ n4_ n5_
          clear HO_0 HO214 HO228 HO220 HB
          intro HO_0 HO214 HO228 HO220 HO217 HB
          (try clear hb)
          (try clear hb2)
          (try clear hk)
          (try clear hi)
          (try clear ho0)
          refine hK.out _ _ trivial (fun hHeld=>?_)
          clear hK K
          refine norm_ (a':=?_) ?_ ?_
          rotate_left
          ·show Act.put _ (some 36) _=_
           simp only [Act.put,List.setIfInBounds_toArray,List.set_cons_zero,List.set_cons_succ,i64_w,i32_w]
           rfl
          exact norm_ (by simp only [putAll,Act.put,List.setIfInBounds_toArray,List.set_cons_zero,List.set_cons_succ]) (hCont (v216,v219) _ ⟨(by (with_reducible repeat (first|apply Kd.V_alloc|apply Kd.V_drewN|apply Kd.V_drew));exact Kd.V_mono HO214.out (fun _ hk=>⟨hk.1.1,⟨hk.2,hk.1.2⟩⟩)),(Kd.R_mono HO217.out (fun _ hk=>⟨hk.1.1,hk.2⟩)),(Kd.R_mono HO220.out (fun _ hk=>⟨hk.1.1,hk.2⟩)),(by (with_reducible repeat (first|apply Kd.V_alloc|apply Kd.V_drewN|apply Kd.V_drew));exact Kd.V_mono HO228.out (fun _ hk=>⟨hk.1.1,⟨hk.2,hk.1.2⟩⟩)),(by (with_reducible repeat (first|apply Kd.V_alloc|apply Kd.V_drewN|apply Kd.V_drew));exact Kd.V_mono HO_0.out (fun _ hk=>⟨hk.1.1,⟨hk.2,hk.1.2⟩⟩)),HB.out⟩)
        rintro ⟨v216,v219⟩ w38 ⟨h0_,h1_,h2_,h3_,h4_,h5_⟩
        have n0_:Zz (Kd.V Kd.string 9 w38 w.heap.size (fun k_=>(P0_ k_∨w.heap.size≤k_)∧some k_ ≠ (v216:Value).ownBlock∧some k_ ≠ (v219:Value).ownBlock) (.slice A0 y210.length c0) y210):=⟨h0_⟩
        have n1_:Zz (Kd.R Kd.string 9 w38 w.heap.size (fun k_=>(w.heap.size≤k_)∧some k_ ≠ (v219:Value).ownBlock) v216 t215):=⟨h1_⟩
        have n2_:Zz (Kd.R Kd.string 9 w38 w.heap.size (fun k_=>(w.heap.size≤k_)∧some k_ ≠ (v216:Value).ownBlock) v219 y218):=⟨h2_⟩
        have n3_:Zz (Kd.V Kd.string 9 w38 w.heap.size (fun k_=>(P0_ k_∨w.heap.size≤k_)∧some k_ ≠ (v216:Value).ownBlock∧some k_ ≠ (v219:Value).ownBlock) (.slice A34 y224.length c34) y224):=⟨h3_⟩
        have n4_:Zz (Kd.V Kd.string 9 w38 w.heap.size (fun k_=>(P0_ k_∨w.heap.size≤k_)∧some k_ ≠ (v216:Value).ownBlock∧some k_ ≠ (v219:Value).ownBlock) (.slice A0 l0.length c0) l0):=⟨h4_⟩
        have n5_:Zz (Below w.heap.size w w38):=⟨h5_⟩
        clear HO_0
        clear HB
        clear h0_ h1_ h2_ h3_ h4_ h5_
        have HO214:=n0_
        have HO217:=n1_
        have HO220:=n2_
        have HO228:=n3_
        have HO_0:=n4_
        have HB:=n5_
        clear n0_ n1_ n2_ n3_ n4_ n5_
        have hHeld:=trivial
        obtain ⟨Ao40,co40,eo40⟩:=Kd.R_slice HO220.out
        (first|subst eo40|(injection eo40 with f1_ f2_ f3_;have f4_:=f1_.symm;have f5_:=f3_.symm;clear f1_ f2_ f3_;subst f4_;subst f5_))
        refine norm_ (a':=?_) ?_ ?_
        rotate_left
        ·simp only [putAll,Act.put,List.setIfInBounds_toArray,List.set_cons_zero,List.set_cons_succ]
         rfl
        refine one_ (i:=6) (N:=some 39) #[true,true,true,true,true,true,true,true,true,true,false,false] rfl rfl (one_of HT_.out (by kernel_rfl)) (by decide) (fun K hK=>?_)
        refine Kd.R_append_rows_step Kd.string (w0:=w) w.heap.size (by rfl) (.tmp 36) (.tmp 38) 44 9 (.string ⟨#[]⟩) 16 rfl Try.underlying44 info9 rfl (by decide) (by omega) v216 t215 y218 _ _ _ (fun k_=>(w.heap.size≤k_)∧some k_ ≠ (.slice Ao40 y218.length co40:Value).ownBlock) (fun _=>False) rfl rfl ?aO ?aR (fun _ _ h=>h) (fun _ h=>h.elim) ?aF ?aB ?aS ?aL ?_
        (case aR=>repeat (first|exact (Kd.R_reads' HO220.out).2.2|(with_reducible refine Kd.C_alloc ?_ _)|(with_reducible refine Kd.C_drewN ?_ _)|(with_reducible refine Kd.C_drew ?_)))
        (case aB=>exact (by repeat (first|(with_reducible first|exact HB.out|apply qA|apply qN|apply q1_)|exact HB.out)))
        (case aF=>exact (fun k_ hk=>⟨(Nat.le_trans (qZ (by repeat (first|(with_reducible first|exact HB.out|apply qA|apply qN|apply q1_)|exact HB.out))) hk),Kd.fresh' (Kd.R_lt (by (with_reducible repeat first|apply Kd.R_alloc|apply Kd.R_drewN|apply Kd.R_drew);exact HO220.out)) k_ hk⟩))
        (case aO=>exact (by (with_reducible repeat first|apply Kd.R_alloc|apply Kd.R_drewN|apply Kd.R_drew);exact HO217.out))
        (case aS=>exact (qZ (by repeat (first|(with_reducible first|exact HB.out|apply qA|apply qN|apply q1_)|exact HB.out))))
        (case aL=>have:=LMc28.out;omega)
        intro v222 w39 ho hb hg hat
        rw [← Ny221.out] at ho
        have n0_:=Zz.mk (Kd.V_afterv (ok:=(fun k_=>(P0_ k_∨w.heap.size≤k_)∧some k_ ≠ (.slice Ao40 y218.length co40:Value).ownBlock)) (by (with_reducible repeat (first|apply Kd.V_alloc|apply Kd.V_drewN|apply Kd.V_drew));exact Kd.V_mono HO_0.out (fun _ hk=>⟨⟨hk.1,hk.2.2⟩,hk.2.1⟩)) hg hat)
        have n1_:=Zz.mk (Kd.V_afterv (ok:=(fun k_=>(P0_ k_∨w.heap.size≤k_)∧some k_ ≠ (.slice Ao40 y218.length co40:Value).ownBlock)) (by (with_reducible repeat (first|apply Kd.V_alloc|apply Kd.V_drewN|apply Kd.V_drew));exact Kd.V_mono HO214.out (fun _ hk=>⟨⟨hk.1,hk.2.2⟩,hk.2.1⟩)) hg hat)
        have n2_:=Zz.mk (Kd.V_afterv (ok:=(fun k_=>(P0_ k_∨w.heap.size≤k_)∧some k_ ≠ (.slice Ao40 y218.length co40:Value).ownBlock)) (by (with_reducible repeat (first|apply Kd.V_alloc|apply Kd.V_drewN|apply Kd.V_drew));exact Kd.V_mono HO228.out (fun _ hk=>⟨⟨hk.1,hk.2.2⟩,hk.2.1⟩)) hg hat)
        have n3_:=Zz.mk (Kd.R_after (ok:=(fun k_=>(w.heap.size≤k_))) HO220.out hg hat)
        have n4_:=Zz.mk (hb)
        have n5_:=Zz.mk (ho)
        revert n0_ n1_ n2_ n3_ n4_ n5_
        clear HO_0 HO214 HO228 HO220 HB HO217
        intro HO_0 HO214 HO228 HO220 HB HO223
        clear ho hb hg hat
        refine hK.out _ _ trivial (fun hHeld=>?_)
        clear hK K
        refine norm_ (a':=?_) ?_ ?_
        rotate_left
        ·show Act.put _ (some 39) _=_
         simp only [Act.put,List.setIfInBounds_toArray,List.set_cons_zero,List.set_cons_succ,i64_w,i32_w]
         rfl
        refine one_ (i:=10) (N:=some 43) #[true,true,true,true,true,true,true,true,true,true,true,false] rfl rfl (one_of HT_.out (by kernel_rfl)) (by decide) (fun K hK=>?_)
        refine Kd.R_append_rows_step Kd.string (w0:=w) w.heap.size (by rfl) (.tmp 39) (.tmp 42) 44 9 (.string ⟨#[]⟩) 16 rfl Try.underlying44 info9 rfl (by decide) (by omega) v222 y221 y224 _ _ _ (fun k_=>(w.heap.size≤k_)∧some k_ ≠ (.slice Ao40 y218.length co40:Value).ownBlock) (fun _=>False) rfl rfl ?aO ?aR (fun _ _ h=>h) (fun _ h=>h.elim) ?aF ?aB ?aS ?aL ?_
        (case aR=>repeat (first|exact (Kd.V_reads' HO228.out).2.2|(with_reducible refine Kd.C_alloc ?_ _)|(with_reducible refine Kd.C_drewN ?_ _)|(with_reducible refine Kd.C_drew ?_)))
        (case aB=>exact (by repeat (first|(with_reducible first|exact HB.out|apply qA|apply qN|apply q1_)|exact HB.out)))
        (case aF=>exact (fun k_ hk=>⟨(Nat.le_trans (qZ (by repeat (first|(with_reducible first|exact HB.out|apply qA|apply qN|apply q1_)|exact HB.out))) hk),Kd.fresh' (Kd.R_lt (by (with_reducible repeat first|apply Kd.R_alloc|apply Kd.R_drewN|apply Kd.R_drew);exact HO220.out)) k_ hk⟩))
        (case aO=>exact (by (with_reducible repeat first|apply Kd.R_alloc|apply Kd.R_drewN|apply Kd.R_drew);exact HO223.out))
        (case aS=>exact (qZ (by repeat (first|(with_reducible first|exact HB.out|apply qA|apply qN|apply q1_)|exact HB.out))))
        (case aL=>have:=LMc31.out;omega)
        intro v230 w41 ho hb hg hat
        rw [← Ny229.out] at ho
        have n0_:=Zz.mk (Kd.V_afterv (ok:=(fun k_=>(P0_ k_∨w.heap.size≤k_)∧some k_ ≠ (.slice Ao40 y218.length co40:Value).ownBlock)) (by (with_reducible repeat (first|apply Kd.V_alloc|apply Kd.V_drewN|apply Kd.V_drew));exact HO_0.out) hg hat)
        have n1_:=Zz.mk (Kd.V_afterv (ok:=(fun k_=>(P0_ k_∨w.heap.size≤k_)∧some k_ ≠ (.slice Ao40 y218.length co40:Value).ownBlock)) (by (with_reducible repeat (first|apply Kd.V_alloc|apply Kd.V_drewN|apply Kd.V_drew));exact HO214.out) hg hat)
        have n2_:=Zz.mk (Kd.V_afterv (ok:=(fun k_=>(P0_ k_∨w.heap.size≤k_)∧some k_ ≠ (.slice Ao40 y218.length co40:Value).ownBlock)) (by (with_reducible repeat (first|apply Kd.V_alloc|apply Kd.V_drewN|apply Kd.V_drew));exact HO228.out) hg hat)
        have n3_:=Zz.mk (Kd.R_after (ok:=(fun k_=>(w.heap.size≤k_))) HO220.out hg hat)
        have n4_:=Zz.mk (hb)
        have n5_:=Zz.mk (ho)
        revert n0_ n1_ n2_ n3_ n4_ n5_
        clear HO_0 HO214 HO228 HO220 HB HO223
        intro HO_0 HO214 HO228 HO220 HB HO231
        clear ho hb hg hat
        refine hK.out _ _ trivial (fun hHeld=>?_)
        clear hK K
        refine norm_ (a':=?_) ?_ ?_
        rotate_left
        ·show Act.put _ (some 43) _=_
         simp only [Act.put,List.setIfInBounds_toArray,List.set_cons_zero,List.set_cons_succ,i64_w,i32_w]
         rfl
        refine pure_ (i:=11) (N:=some 4) (v:=?_) (a':=?_) #[true,true,true,true,true,true,true,true,true,true,true,true] rfl rfl (any_of HT_.out (by kernel_rfl)) (fun _ _ _ h=>h) (Or.inl ⟨by rfl,?_⟩) ?_ ?_
        rotate_left
        ·intro w'
         go_simp
         with_reducible rfl
        rotate_left
        ·simp only [Act.put,List.setIfInBounds_toArray,List.set_cons_zero,List.set_cons_succ,i64_w,i32_w]
         rfl
        refine done_ (done_of HT_.out (by kernel_rfl)) ?_
        try go_wp2
        go_ret
        exact ⟨_,by first|rfl|(simp [errW_none,errW_some] <;> rfl)|(simp [*,errW_none,errW_some] <;> rfl),Kd.V_mono (Kd.R_V (by (with_reducible repeat first|apply Kd.R_alloc|apply Kd.R_drewN|apply Kd.R_drew);exact Kd.R_mono HO231.out (fun _ hk=>hk.1))) (fun k_ hk=>by first|exact ⟨(.inr (hk.1)),hk.2⟩|exact (.inr (hk))),by repeat (first|(with_reducible first|exact HB.out|apply qA|apply qN|apply q1_)|exact HB.out)⟩
       ·rw [if_neg c31] at H
        exact absurd H (by simp)
      ·rw [if_neg c28] at H
       exact absurd H (by simp)
     ·rw [if_neg c26] at H
      exact absurd H (by simp)
    ·rw [if_neg c25] at H
     exact absurd H (by simp)
end Go.Proofs.Ytghkbgmbbcaecaa.Q
