import Derived.Test.YtghkbgmbbcaecaaA0
import Derived.Test.YtghkbgmbbcaecaaAwWords
import Derived.Test.YtghkbgmbbcaecaaAwLast
import Derived.Test.YtghkbgmbbcaecaaAwTab
import Derived.Test.YtghkbgmbbcaecaaAwApart
import Derived.Test.YtghkbgmbbcaecaaAwFoot
import Derived.Test.YtghkbgmbbcaecaaAwKept
import Derived.Test.YtghkbgmbbcaecaaAwShare
import Derived.Test.YtghkbgmbbcaecaaAwN
import Derived.Test.YtghkbgmbbcaecaaAwEqStruct
import Derived.Test.YtghkbgmbbcaecaaAwRepsOne
import Derived.Test.YtghkbgmbbcaecaaAwGuard
import Derived.Test.YtghkbgmbbcaecaaAwMore
import Derived.Test.YtghkbgmbbcaecaaProg
import Derived.Below
import Derived.Deep.Draws
import Derived.Deep.AppendLies
import Derived.Maps.AppendAt
import Derived.OwnWalk
import Derived.Laws.BytesArg
import Derived.Laws.MakeOwn
import Derived.Laws.OwnMore
import Derived.Deep.OwnRows
import Derived.Tactics
import Derived.Lib.ConvBytes
import Derived.Laws.Slices
import Derived.WalkKit
import Derived.KernelRfl
import Derived.RowKit3
import Derived.Deep.LoopGhost
import Derived.Deep.QuietTactic
import Derived.BigQuiet
import Derived.WideLaws
import Derived.Deep.DeepCutAuto
import Derived.Deep.CutBlock
import Derived.Deep.RegionHeld3
import Derived.Laws.Rows
import Derived.Lib.AppendStr
import Derived.ArgAppend
import Derived.Laws.IdiomCopy
import Derived.OrdersHeld
import Derived.Laws.BitsLemmas
import Derived.RowKit
import Derived.Lib.SlicesCompact
import Derived.Maps.Own
import Derived.StringKeys
import Derived.Maps.OwnOps
import Derived.Maps.OwnSet
import Derived.Maps.Views
import Derived.Laws.AppendOwn
import Derived.Deep.DrawnRows
import Derived.Shelf.Sort.Plain
import Derived.Shelf.Slices.CompactS
import Derived.Shelf.Slices.In.SortNone
import Derived.RangeFuncBox
import Derived.RangeFuncLeaves
import Derived.Shelf.Abstract
import Derived.OwnWalkIn
import Derived.TacticsInMore
import Derived.LoopNIn
import Derived.LoopIn
import Derived.Lib.OwnBridge
import Derived.Sort.OwnSorted
import Derived.Sort.Grow
import Derived.Shelf.Strings.OnBuilder
import Derived.Ground.NamesProg
import Derived.Ground.SlgfProg
import Derived.Sort.Walk0
import Derived.Lib.Strings
set_option linter.unusedVariables false
set_option linter.unusedSimpArgs false
namespace Go.Proofs.Ytghkbgmbbcaecaa.Q
open Go.RowKit Go.Proofs.YtghkbgmbbcaecaaW.PrintWords Go.Proofs.YtghkbgmbbcaecaaW.PrintLast Go.Proofs.YtghkbgmbbcaecaaW.PrintMore
attribute [local go_sem] run_field_23 run_field_24 run_field_31 run_field_32 run_field_35 run_field_36 isSome_setCell max2_int min2_int max_two min_two max_three min_three max_four min_four   -- for this text's walks alone
set_option linter.unusedVariables false
set_option linter.unusedSimpArgs false
def laws_eqNodeS.l0:Nat→List (S62)→List (S62)→Int→Option (Bool)
  | 0,_,_,_=>none
  | k+1,x0,x1,x5=>if x5<(x0.length:Int) then (if 0≤x5 then (if x5<(x1.length:Int) then ((laws_eqNode.f ((rT x0 x5).f0) ((rT x0 x5).f1) ((rT x0 x5).f2) ((rT x1 x5).f0) ((rT x1 x5).f1) ((rT x1 x5).f2)).bind fun t167=>(if t167=true then (laws_eqNodeS.l0 k x0 x1 (wrap64 (x5+1))) else (some false))) else (none)) else (none)) else (some true)
def laws_eqNodeS.f (k:Nat) (l0:List (S62)) (l1:List (S62)):Option (Bool):=if (l0.length:Int)=(l1.length:Int) then (laws_eqNodeS.l0 k l0 l1 0) else (some false)
def laws_eqNodeS.T6:Bool × List (List Nat × List Nat):=(true,[([],[]),([],[]),([0,1],[0,1]),([2],[2]),([],[]),([],[]),([4,5],[4,5]),([6],[6]),([3,7],[3,7]),([8],[8])])
def laws_eqNodeS.B6:List Nat:=[0,0,3,7,0,0,48,112,255,511]
theorem laws_eqNodeS.tab6:rtab .any (opsOf Try.f20 6)=laws_eqNodeS.T6:=by kernel_rfl
theorem laws_eqNodeS.bits6:waitsOk laws_eqNodeS.T6.2 laws_eqNodeS.B6=true:=by kernel_rfl
set_option maxHeartbeats 8000000 in
set_option maxRecDepth 100000 in
theorem laws_eqNodeS.calls (k:Nat) (A0:Option Addr) (c0:Nat) (l0:List (S62)) (A1:Option Addr) (c1:Nat) (l1:List (S62)) (r:Bool) (w:World) (hr0:Kd.C k62 w A0 l0.length l0) (hc0:l0.length≤c0) (hr1:Kd.C k62 w A1 l1.length l1) (hc1:l1.length≤c1) (h:laws_eqNodeS.f k l0 l1=some r) :
  Calls Try.prog 20 #[.slice A0 l0.length c0,.slice A1 l1.length c1] w fun e w'=>e=.returned (.bool r)∧Below w.heap.size w w':=by
 have hu62:=Try.underlying62
 have HR0:=Zz.mk hr0
 have HC0:=Zz.mk hc0
 clear hr0 hc0
 have HR1:=Zz.mk hr1
 have HC1:=Zz.mk hc1
 clear hr1 hc1
 have HB:=Zz.mk (Below.refl w.heap.size w)
 have H:(if (l0.length:Int)=(l1.length:Int) then (laws_eqNodeS.l0 k l0 l1 0) else (some false))=some r:=h
 clear h
 by_cases c3:(l0.length:Int)=(l1.length:Int)
 ·rw [if_pos c3] at H
  have c3b0:((l0.length:Int) == (l1.length:Int))=true:=beq_iff_eq.mpr c3
  have c3b1:((l0.length:Int) != (l1.length:Int))=false:=bne_eq_false_iff_eq.mpr c3
  have c3b2:(l0.length == l1.length)=true:=by first|simpa using c3|(simp at c3 ⊢;omega)
  clear c3
  have H':=Zz.mk H
  clear H
  go_enter Try.func20,Try.ntmps20
  go_wp2
  go_loopg [5] k (fun kq v5 w'=>∃ (x5_1:Int),v5=.int .i64 x5_1∧Zz (laws_eqNodeS.l0 kq l0 l1 x5_1=some r)∧Zz (kq≤k)∧Zz (Below w.heap.size w w'))
  case atStart=>exact ⟨(0),(by first|rfl|(simp;done)|(simp [*];done)),H',⟨Nat.le_refl _⟩,⟨by repeat (first|(with_reducible first|exact HB.out|apply qA|apply qN|apply q1_)|exact HB.out)⟩⟩
  case round =>
   clear H'
   try clear c1
   try clear c2
   try clear p2
   try clear c3
   try clear c3b0
   try clear c3b1
   try clear c3b2
   obtain ⟨x5_1,rfl,HA,HK1,HB⟩:=hrel
   cases gk with
   | zero=>exact absurd HA.out (by simp [laws_eqNodeS.l0])
   | succ k1 =>
    have H:=HA.out
    clear HA
    simp only [laws_eqNodeS.l0] at H
    by_cases c4:x5_1<(l0.length:Int)
    ·rw [if_pos c4] at H
     have c4b0:decide (x5_1<(l0.length:Int))=true:=decide_eq_true c4
     clear c4
     by_cases c5:0≤x5_1
     ·rw [if_pos c5] at H
      have c5b0:decide (0≤x5_1)=true:=decide_eq_true c5
      clear c5
      by_cases c6:x5_1<(l1.length:Int)
      ·rw [if_pos c6] at H
       have c6b0:decide (x5_1<(l1.length:Int))=true:=decide_eq_true c6
       clear c6
       replace H:=Option.bind_eq_some_iff.mp H
       obtain ⟨t167,A70,H⟩:=H
       replace H:(if t167=true then (laws_eqNodeS.l0 k1 l0 l1 (wrap64 (x5_1+1))) else (some false))=some r:=H
       have A7:=Zz.mk A70
       clear A70
       by_cases c8:t167=true
       ·subst c8
        have H1:(laws_eqNodeS.l0 k1 l0 l1 (wrap64 (x5_1+1)))=some r:=by rw [if_pos rfl] at H;exact H
        clear H
        have H:=H1
        clear H1
        have H':=Zz.mk H
        clear H
        try go_wp2
        have n0_:=Zz.mk (q1_ HB.out)
        revert n0_
        clear HB
        intro HB
        have p165:0≤(x5_1:Int):=of_decide_eq_true (by first|(with_reducible assumption)|assumption)
        have q165:x5_1<(l0.length:Int):=of_decide_eq_true (by first|(with_reducible assumption)|assumption)
        obtain ⟨ad165,e165,hx165_0,hx165_1,hx165_2⟩:=at_T62 HR0.out x5_1 p165 q165
        have hw165_2:=hx165_2
        have hw165_1:=hx165_1
        have hw165_0:=hx165_0
        cases e165
        replace hx165_0:=(HB.out.cell (World.block_lt_of_cell? w _ hx165_0)).trans hx165_0
        replace hx165_1:=(HB.out.cell (World.block_lt_of_cell? w _ hx165_1)).trans hx165_1
        replace hx165_2:=(HB.out.cell (World.block_lt_of_cell? w _ hx165_2)).trans hx165_2
        replace p165:=eq_true p165
        replace q165:=eq_true q165
        have p166:0≤(x5_1:Int):=of_decide_eq_true (by first|(with_reducible assumption)|assumption)
        have q166:x5_1<(l1.length:Int):=of_decide_eq_true (by first|(with_reducible assumption)|assumption)
        obtain ⟨ad166,e166,hx166_0,hx166_1,hx166_2⟩:=at_T62 HR1.out x5_1 p166 q166
        have hw166_2:=hx166_2
        have hw166_1:=hx166_1
        have hw166_0:=hx166_0
        cases e166
        replace hx166_0:=(HB.out.cell (World.block_lt_of_cell? w _ hx166_0)).trans hx166_0
        replace hx166_1:=(HB.out.cell (World.block_lt_of_cell? w _ hx166_1)).trans hx166_1
        replace hx166_2:=(HB.out.cell (World.block_lt_of_cell? w _ hx166_2)).trans hx166_2
        replace p166:=eq_true p166
        replace q166:=eq_true q166
        refine start_ (n:=10) (S:=fun w'=>w'.cell? (ad165.add ((x5_1).toNat * 3))=some (.int .i64 ((rT l0 x5_1).f0))∧w'.cell? ⟨(ad165.add ((x5_1).toNat * 3)).block,(ad165.add ((x5_1).toNat * 3)).off+1,none⟩=some (.int .i64 ((rT l0 x5_1).f1))∧w'.cell? ⟨(ad165.add ((x5_1).toNat * 3)).block,(ad165.add ((x5_1).toNat * 3)).off+2,none⟩=some (.bool ((rT l0 x5_1).f2))∧w'.cell? (ad166.add ((x5_1).toNat * 3))=some (.int .i64 ((rT l1 x5_1).f0))∧w'.cell? ⟨(ad166.add ((x5_1).toNat * 3)).block,(ad166.add ((x5_1).toNat * 3)).off+1,none⟩=some (.int .i64 ((rT l1 x5_1).f1))∧w'.cell? ⟨(ad166.add ((x5_1).toNat * 3)).block,(ad166.add ((x5_1).toNat * 3)).off+2,none⟩=some (.bool ((rT l1 x5_1).f2))) (ds:=[]) #[false,false,false,false,false,false,false,false,false,false] (by kernel_rfl) rfl rfl ⟨((HB.out.cell (World.block_lt_of_cell? w _ hw165_0)).trans hw165_0),((HB.out.cell (World.block_lt_of_cell? w _ hw165_1)).trans hw165_1),((HB.out.cell (World.block_lt_of_cell? w _ hw165_2)).trans hw165_2),((HB.out.cell (World.block_lt_of_cell? w _ hw166_0)).trans hw166_0),((HB.out.cell (World.block_lt_of_cell? w _ hw166_1)).trans hw166_1),((HB.out.cell (World.block_lt_of_cell? w _ hw166_2)).trans hw166_2)⟩ (fun hHeld=>?_);refine with_tabW laws_eqNodeS.tab6 laws_eqNodeS.bits6 (fun HT_ HW_=>?_)
        generalize wr.drew=w9 at HB hx165_0 hx165_1 hx165_2 hx166_0 hx166_1 hx166_2 hHeld ⊢
        refine pure_ (i:=0) (N:=some 17) (v:=?_) (a':=?_) #[true,false,false,false,false,false,false,false,false,false] rfl rfl (any_of HT_.out (by kernel_rfl)) (fun _ _ _ h=>h) (Or.inl ⟨by rfl,?_⟩) ?_ ?_
        rotate_left
        ·intro w'
         go_simp
         with_reducible rfl
        rotate_left
        ·simp only [Act.put,List.setIfInBounds_toArray,List.set_cons_zero,List.set_cons_succ,i64_w,i32_w]
         rfl
        refine pure_ (i:=1) (N:=some 18) (v:=?_) (a':=?_) #[true,true,false,false,false,false,false,false,false,false] rfl rfl (any_of HT_.out (by kernel_rfl)) (fun _ _ _ h=>h) (Or.inl ⟨by rfl,?_⟩) ?_ ?_
        rotate_left
        ·intro w'
         go_simp
         with_reducible rfl
        rotate_left
        ·simp only [Act.put,List.setIfInBounds_toArray,List.set_cons_zero,List.set_cons_succ,i64_w,i32_w]
         rfl
        refine pure_ (i:=2) (N:=some 19) (v:=?_) (a':=?_) #[true,true,true,false,false,false,false,false,false,false] rfl rfl (any_of HT_.out (by kernel_rfl)) (fun _ _ _ h=>h) (Or.inl ⟨by rfl,?_⟩) ?_ ?_
        rotate_left
        ·intro w'
         go_simp
         with_reducible rfl
        rotate_left
        ·simp only [Act.put,List.setIfInBounds_toArray,List.set_cons_zero,List.set_cons_succ,i64_w,i32_w]
         rfl
        refine pure_ (i:=4) (N:=some 21) (v:=?_) (a':=?_) #[true,true,true,false,true,false,false,false,false,false] rfl rfl (any_of HT_.out (by kernel_rfl)) (fun _ _ _ h=>h) (Or.inl ⟨by rfl,?_⟩) ?_ ?_
        rotate_left
        ·intro w'
         go_simp
         with_reducible rfl
        rotate_left
        ·simp only [Act.put,List.setIfInBounds_toArray,List.set_cons_zero,List.set_cons_succ,i64_w,i32_w]
         rfl
        refine pure_ (i:=5) (N:=some 22) (v:=?_) (a':=?_) #[true,true,true,false,true,true,false,false,false,false] rfl rfl (any_of HT_.out (by kernel_rfl)) (fun _ _ _ h=>h) (Or.inl ⟨by rfl,?_⟩) ?_ ?_
        rotate_left
        ·intro w'
         go_simp
         with_reducible rfl
        rotate_left
        ·simp only [Act.put,List.setIfInBounds_toArray,List.set_cons_zero,List.set_cons_succ,i64_w,i32_w]
         rfl
        refine pure_ (i:=6) (N:=some 23) (v:=?_) (a':=?_) #[true,true,true,false,true,true,true,false,false,false] rfl rfl (any_of HT_.out (by kernel_rfl)) (fun _ _ _ h=>h) (Or.inl ⟨by rfl,?_⟩) ?_ ?_
        rotate_left
        ·intro w'
         go_simp
         with_reducible rfl
        rotate_left
        ·simp only [Act.put,List.setIfInBounds_toArray,List.set_cons_zero,List.set_cons_succ,i64_w,i32_w]
         rfl
        refine take_ (i:=3) (N:=some 20) (v:=?_) (a':=?_) #[true,true,true,true,true,true,true,false,false,false] rfl rfl (take_ofW HT_.out HW_.out (by kernel_rfl)) (fun _ _ _ h=>h) (Or.inl ⟨by rfl,?_⟩) hHeld ?_ ?_
        rotate_left
        ·rintro w' ⟨s0,s1,s2,s3,s4,s5⟩
         go_simp
         with_reducible rfl
        rotate_left
        ·simp only [Act.put,List.setIfInBounds_toArray,List.set_cons_zero,List.set_cons_succ,i64_w,i32_w]
         rfl
        refine take_ (i:=7) (N:=some 24) (v:=?_) (a':=?_) #[true,true,true,true,true,true,true,true,false,false] rfl rfl (take_ofW HT_.out HW_.out (by kernel_rfl)) (fun _ _ _ h=>h) (Or.inl ⟨by rfl,?_⟩) hHeld ?_ ?_
        rotate_left
        ·rintro w' ⟨s0,s1,s2,s3,s4,s5⟩
         go_simp
         with_reducible rfl
        rotate_left
        ·simp only [Act.put,List.setIfInBounds_toArray,List.set_cons_zero,List.set_cons_succ,i64_w,i32_w]
         rfl
        refine one_ (i:=8) (N:=some 25) #[true,true,true,true,true,true,true,true,true,false] rfl rfl (one_of HT_.out (by kernel_rfl)) (by decide) (fun K hK=>?_)
        refine goes_ Try.func39 (by kernel_rfl) rfl #[.agg #[.int .i64 ((rT l0 x5_1).f0),.int .i64 ((rT l0 x5_1).f1),.bool ((rT l0 x5_1).f2)],.agg #[.int .i64 ((rT l1 x5_1).f0),.int .i64 ((rT l1 x5_1).f1),.bool ((rT l1 x5_1).f2)]] (by rfl) rfl rfl (by (try simp only [List.map_toArray,List.map_cons,List.map_nil]);first|done|rfl|(simp only [List.length_drop,List.length_take];rfl)) ?_
        with_reducible refine (laws_eqNode.calls ((rT l0 x5_1).f0) ((rT l0 x5_1).f1) ((rT l0 x5_1).f2) ((rT l1 x5_1).f0) ((rT l1 x5_1).f1) ((rT l1 x5_1).f2) true _ A7.out).mono ?_
        rintro e w10 ⟨rfl,hb⟩
        refine ⟨_,rfl,?_⟩
        have n0_:=Zz.mk (qP HB.out hb)
        revert n0_
        clear HB
        intro HB
        (try clear hb)
        (try clear hb2)
        (try clear hk)
        (try clear hi)
        refine hK.out _ _ ⟨((HB.out.cell (World.block_lt_of_cell? w _ hw165_0)).trans hw165_0),((HB.out.cell (World.block_lt_of_cell? w _ hw165_1)).trans hw165_1),((HB.out.cell (World.block_lt_of_cell? w _ hw165_2)).trans hw165_2),((HB.out.cell (World.block_lt_of_cell? w _ hw166_0)).trans hw166_0),((HB.out.cell (World.block_lt_of_cell? w _ hw166_1)).trans hw166_1),((HB.out.cell (World.block_lt_of_cell? w _ hw166_2)).trans hw166_2)⟩ (fun hHeld=>?_)
        clear hK K
        refine norm_ (a':=?_) ?_ ?_
        rotate_left
        ·show Act.put _ (some 25) _=_
         simp only [Act.put,List.setIfInBounds_toArray,List.set_cons_zero,List.set_cons_succ,i64_w,i32_w]
         rfl
        refine pure_ (i:=9) (N:=some 26) (v:=?_) (a':=?_) #[true,true,true,true,true,true,true,true,true,true] rfl rfl (any_of HT_.out (by kernel_rfl)) (fun _ _ _ h=>h) (Or.inl ⟨by rfl,?_⟩) ?_ ?_
        rotate_left
        ·intro w'
         go_simp
         with_reducible rfl
        rotate_left
        ·simp only [Act.put,List.setIfInBounds_toArray,List.set_cons_zero,List.set_cons_succ,i64_w,i32_w]
         rfl
        refine done_ (done_of HT_.out (by kernel_rfl)) ?_
        try go_wp2
        go_roundg k1
        case measure=>have:=HK1.out;omega
        case rel=>exact ⟨(wrap64 (x5_1+1)),(by first|rfl|(simp;done)|(simp [*];done)),H',⟨by have:=HK1.out;omega⟩,⟨by repeat (first|(with_reducible first|exact HB.out|apply qA|apply qN|apply q1_)|exact HB.out)⟩⟩
       ·replace c8:=Bool.eq_false_iff.mpr c8
        subst c8
        have H1:(some false)=some r:=by rw [if_neg (show ¬ (false=true) by decide)] at H;exact H
        clear H
        have H:=H1
        clear H1
        obtain rfl:=Option.some.inj H
        try go_wp2
        have n0_:=Zz.mk (q1_ HB.out)
        revert n0_
        clear HB
        intro HB
        have p165:0≤(x5_1:Int):=of_decide_eq_true (by first|(with_reducible assumption)|assumption)
        have q165:x5_1<(l0.length:Int):=of_decide_eq_true (by first|(with_reducible assumption)|assumption)
        obtain ⟨ad165,e165,hx165_0,hx165_1,hx165_2⟩:=at_T62 HR0.out x5_1 p165 q165
        have hw165_2:=hx165_2
        have hw165_1:=hx165_1
        have hw165_0:=hx165_0
        cases e165
        replace hx165_0:=(HB.out.cell (World.block_lt_of_cell? w _ hx165_0)).trans hx165_0
        replace hx165_1:=(HB.out.cell (World.block_lt_of_cell? w _ hx165_1)).trans hx165_1
        replace hx165_2:=(HB.out.cell (World.block_lt_of_cell? w _ hx165_2)).trans hx165_2
        replace p165:=eq_true p165
        replace q165:=eq_true q165
        have p166:0≤(x5_1:Int):=of_decide_eq_true (by first|(with_reducible assumption)|assumption)
        have q166:x5_1<(l1.length:Int):=of_decide_eq_true (by first|(with_reducible assumption)|assumption)
        obtain ⟨ad166,e166,hx166_0,hx166_1,hx166_2⟩:=at_T62 HR1.out x5_1 p166 q166
        have hw166_2:=hx166_2
        have hw166_1:=hx166_1
        have hw166_0:=hx166_0
        cases e166
        replace hx166_0:=(HB.out.cell (World.block_lt_of_cell? w _ hx166_0)).trans hx166_0
        replace hx166_1:=(HB.out.cell (World.block_lt_of_cell? w _ hx166_1)).trans hx166_1
        replace hx166_2:=(HB.out.cell (World.block_lt_of_cell? w _ hx166_2)).trans hx166_2
        replace p166:=eq_true p166
        replace q166:=eq_true q166
        refine start_ (n:=10) (S:=fun w'=>w'.cell? (ad165.add ((x5_1).toNat * 3))=some (.int .i64 ((rT l0 x5_1).f0))∧w'.cell? ⟨(ad165.add ((x5_1).toNat * 3)).block,(ad165.add ((x5_1).toNat * 3)).off+1,none⟩=some (.int .i64 ((rT l0 x5_1).f1))∧w'.cell? ⟨(ad165.add ((x5_1).toNat * 3)).block,(ad165.add ((x5_1).toNat * 3)).off+2,none⟩=some (.bool ((rT l0 x5_1).f2))∧w'.cell? (ad166.add ((x5_1).toNat * 3))=some (.int .i64 ((rT l1 x5_1).f0))∧w'.cell? ⟨(ad166.add ((x5_1).toNat * 3)).block,(ad166.add ((x5_1).toNat * 3)).off+1,none⟩=some (.int .i64 ((rT l1 x5_1).f1))∧w'.cell? ⟨(ad166.add ((x5_1).toNat * 3)).block,(ad166.add ((x5_1).toNat * 3)).off+2,none⟩=some (.bool ((rT l1 x5_1).f2))) (ds:=[]) #[false,false,false,false,false,false,false,false,false,false] (by kernel_rfl) rfl rfl ⟨((HB.out.cell (World.block_lt_of_cell? w _ hw165_0)).trans hw165_0),((HB.out.cell (World.block_lt_of_cell? w _ hw165_1)).trans hw165_1),((HB.out.cell (World.block_lt_of_cell? w _ hw165_2)).trans hw165_2),((HB.out.cell (World.block_lt_of_cell? w _ hw166_0)).trans hw166_0),((HB.out.cell (World.block_lt_of_cell? w _ hw166_1)).trans hw166_1),((HB.out.cell (World.block_lt_of_cell? w _ hw166_2)).trans hw166_2)⟩ (fun hHeld=>?_);refine with_tabW laws_eqNodeS.tab6 laws_eqNodeS.bits6 (fun HT_ HW_=>?_)
        generalize wr.drew=w11 at HB hx165_0 hx165_1 hx165_2 hx166_0 hx166_1 hx166_2 hHeld ⊢
        refine pure_ (i:=0) (N:=some 17) (v:=?_) (a':=?_) #[true,false,false,false,false,false,false,false,false,false] rfl rfl (any_of HT_.out (by kernel_rfl)) (fun _ _ _ h=>h) (Or.inl ⟨by rfl,?_⟩) ?_ ?_
        rotate_left
        ·intro w'
         go_simp
         with_reducible rfl
        rotate_left
        ·simp only [Act.put,List.setIfInBounds_toArray,List.set_cons_zero,List.set_cons_succ,i64_w,i32_w]
         rfl
        refine pure_ (i:=1) (N:=some 18) (v:=?_) (a':=?_) #[true,true,false,false,false,false,false,false,false,false] rfl rfl (any_of HT_.out (by kernel_rfl)) (fun _ _ _ h=>h) (Or.inl ⟨by rfl,?_⟩) ?_ ?_
        rotate_left
        ·intro w'
         go_simp
         with_reducible rfl
        rotate_left
        ·simp only [Act.put,List.setIfInBounds_toArray,List.set_cons_zero,List.set_cons_succ,i64_w,i32_w]
         rfl
        refine pure_ (i:=2) (N:=some 19) (v:=?_) (a':=?_) #[true,true,true,false,false,false,false,false,false,false] rfl rfl (any_of HT_.out (by kernel_rfl)) (fun _ _ _ h=>h) (Or.inl ⟨by rfl,?_⟩) ?_ ?_
        rotate_left
        ·intro w'
         go_simp
         with_reducible rfl
        rotate_left
        ·simp only [Act.put,List.setIfInBounds_toArray,List.set_cons_zero,List.set_cons_succ,i64_w,i32_w]
         rfl
        refine pure_ (i:=4) (N:=some 21) (v:=?_) (a':=?_) #[true,true,true,false,true,false,false,false,false,false] rfl rfl (any_of HT_.out (by kernel_rfl)) (fun _ _ _ h=>h) (Or.inl ⟨by rfl,?_⟩) ?_ ?_
        rotate_left
        ·intro w'
         go_simp
         with_reducible rfl
        rotate_left
        ·simp only [Act.put,List.setIfInBounds_toArray,List.set_cons_zero,List.set_cons_succ,i64_w,i32_w]
         rfl
        refine pure_ (i:=5) (N:=some 22) (v:=?_) (a':=?_) #[true,true,true,false,true,true,false,false,false,false] rfl rfl (any_of HT_.out (by kernel_rfl)) (fun _ _ _ h=>h) (Or.inl ⟨by rfl,?_⟩) ?_ ?_
        rotate_left
        ·intro w'
         go_simp
         with_reducible rfl
        rotate_left
        ·simp only [Act.put,List.setIfInBounds_toArray,List.set_cons_zero,List.set_cons_succ,i64_w,i32_w]
         rfl
        refine pure_ (i:=6) (N:=some 23) (v:=?_) (a':=?_) #[true,true,true,false,true,true,true,false,false,false] rfl rfl (any_of HT_.out (by kernel_rfl)) (fun _ _ _ h=>h) (Or.inl ⟨by rfl,?_⟩) ?_ ?_
        rotate_left
        ·intro w'
         go_simp
         with_reducible rfl
        rotate_left
        ·simp only [Act.put,List.setIfInBounds_toArray,List.set_cons_zero,List.set_cons_succ,i64_w,i32_w]
         rfl
        refine take_ (i:=3) (N:=some 20) (v:=?_) (a':=?_) #[true,true,true,true,true,true,true,false,false,false] rfl rfl (take_ofW HT_.out HW_.out (by kernel_rfl)) (fun _ _ _ h=>h) (Or.inl ⟨by rfl,?_⟩) hHeld ?_ ?_
        rotate_left
        ·rintro w' ⟨s0,s1,s2,s3,s4,s5⟩
         go_simp
         with_reducible rfl
        rotate_left
        ·simp only [Act.put,List.setIfInBounds_toArray,List.set_cons_zero,List.set_cons_succ,i64_w,i32_w]
         rfl
        refine take_ (i:=7) (N:=some 24) (v:=?_) (a':=?_) #[true,true,true,true,true,true,true,true,false,false] rfl rfl (take_ofW HT_.out HW_.out (by kernel_rfl)) (fun _ _ _ h=>h) (Or.inl ⟨by rfl,?_⟩) hHeld ?_ ?_
        rotate_left
        ·rintro w' ⟨s0,s1,s2,s3,s4,s5⟩
         go_simp
         with_reducible rfl
        rotate_left
        ·simp only [Act.put,List.setIfInBounds_toArray,List.set_cons_zero,List.set_cons_succ,i64_w,i32_w]
         rfl
        refine one_ (i:=8) (N:=some 25) #[true,true,true,true,true,true,true,true,true,false] rfl rfl (one_of HT_.out (by kernel_rfl)) (by decide) (fun K hK=>?_)
        refine goes_ Try.func39 (by kernel_rfl) rfl #[.agg #[.int .i64 ((rT l0 x5_1).f0),.int .i64 ((rT l0 x5_1).f1),.bool ((rT l0 x5_1).f2)],.agg #[.int .i64 ((rT l1 x5_1).f0),.int .i64 ((rT l1 x5_1).f1),.bool ((rT l1 x5_1).f2)]] (by rfl) rfl rfl (by (try simp only [List.map_toArray,List.map_cons,List.map_nil]);first|done|rfl|(simp only [List.length_drop,List.length_take];rfl)) ?_
        with_reducible refine (laws_eqNode.calls ((rT l0 x5_1).f0) ((rT l0 x5_1).f1) ((rT l0 x5_1).f2) ((rT l1 x5_1).f0) ((rT l1 x5_1).f1) ((rT l1 x5_1).f2) false _ A7.out).mono ?_
        rintro e w12 ⟨rfl,hb⟩
        refine ⟨_,rfl,?_⟩
        have n0_:=Zz.mk (qP HB.out hb)
        revert n0_
        clear HB
        intro HB
        (try clear hb)
        (try clear hb2)
        (try clear hk)
        (try clear hi)
        refine hK.out _ _ ⟨((HB.out.cell (World.block_lt_of_cell? w _ hw165_0)).trans hw165_0),((HB.out.cell (World.block_lt_of_cell? w _ hw165_1)).trans hw165_1),((HB.out.cell (World.block_lt_of_cell? w _ hw165_2)).trans hw165_2),((HB.out.cell (World.block_lt_of_cell? w _ hw166_0)).trans hw166_0),((HB.out.cell (World.block_lt_of_cell? w _ hw166_1)).trans hw166_1),((HB.out.cell (World.block_lt_of_cell? w _ hw166_2)).trans hw166_2)⟩ (fun hHeld=>?_)
        clear hK K
        refine norm_ (a':=?_) ?_ ?_
        rotate_left
        ·show Act.put _ (some 25) _=_
         simp only [Act.put,List.setIfInBounds_toArray,List.set_cons_zero,List.set_cons_succ,i64_w,i32_w]
         rfl
        refine pure_ (i:=9) (N:=some 26) (v:=?_) (a':=?_) #[true,true,true,true,true,true,true,true,true,true] rfl rfl (any_of HT_.out (by kernel_rfl)) (fun _ _ _ h=>h) (Or.inl ⟨by rfl,?_⟩) ?_ ?_
        rotate_left
        ·intro w'
         go_simp
         with_reducible rfl
        rotate_left
        ·simp only [Act.put,List.setIfInBounds_toArray,List.set_cons_zero,List.set_cons_succ,i64_w,i32_w]
         rfl
        refine done_ (done_of HT_.out (by kernel_rfl)) ?_
        try go_wp2
        go_ret
        exact ⟨by first|rfl|(simp [errW_none,errW_some] <;> rfl)|(simp [*,errW_none,errW_some] <;> rfl),by repeat (first|(with_reducible first|exact HB.out|apply qA|apply qN|apply q1_)|exact HB.out)⟩
      ·rw [if_neg c6] at H
       exact absurd H (by simp)
     ·rw [if_neg c5] at H
      exact absurd H (by simp)
    ·rw [if_neg c4] at H
     have c4b0:decide (x5_1<(l0.length:Int))=false:=decide_eq_false c4
     clear c4
     obtain rfl:=Option.some.inj H
     go_wp2
     go_ret
     exact ⟨by first|rfl|(simp [errW_none,errW_some] <;> rfl)|(simp [*,errW_none,errW_some] <;> rfl),by repeat (first|(with_reducible first|exact HB.out|apply qA|apply qN|apply q1_)|exact HB.out)⟩
 ·rw [if_neg c3] at H
  have c3b0:((l0.length:Int) == (l1.length:Int))=false:=beq_eq_false_iff_ne.mpr c3
  have c3b1:((l0.length:Int) != (l1.length:Int))=true:=bne_iff_ne.mpr c3
  have c3b2:(l0.length == l1.length)=false:=by first|simpa using c3|(simp at c3 ⊢;omega)
  obtain rfl:=Option.some.inj H
  go_enter Try.func20,Try.ntmps20
  go_wp2
  go_ret
  exact ⟨by first|rfl|(simp [errW_none,errW_some] <;> rfl)|(simp [*,errW_none,errW_some] <;> rfl),by repeat (first|(with_reducible first|exact HB.out|apply qA|apply qN|apply q1_)|exact HB.out)⟩
def laws_eqTrie.f (k:Nat) (l0_0:List (S62)) (l1_0:List (S62)):Option (Bool):=(laws_eqNodeS.f k l0_0 l1_0).bind fun t170=>(if t170=true then (some true) else (some false))
set_option maxHeartbeats 8000000 in
set_option maxRecDepth 100000 in
theorem laws_eqTrie.calls (k:Nat) (A0_0:Option Addr) (c0_0:Nat) (l0_0:List (S62)) (A1_0:Option Addr) (c1_0:Nat) (l1_0:List (S62)) (r:Bool) (w:World) (hr0_0:Kd.C k62 w A0_0 l0_0.length l0_0) (hc0_0:l0_0.length≤c0_0) (hr1_0:Kd.C k62 w A1_0 l1_0.length l1_0) (hc1_0:l1_0.length≤c1_0) (h:laws_eqTrie.f k l0_0 l1_0=some r) :
  Calls Try.prog 7 #[.agg #[.slice A0_0 l0_0.length c0_0],.agg #[.slice A1_0 l1_0.length c1_0]] w fun e w'=>e=.returned (.bool r)∧Below w.heap.size w w':=by
 have hu24:=Try.underlying24
 have HR0_0:=Zz.mk hr0_0
 have HC0_0:=Zz.mk hc0_0
 clear hr0_0 hc0_0
 have HR1_0:=Zz.mk hr1_0
 have HC1_0:=Zz.mk hc1_0
 clear hr1_0 hc1_0
 have HB:=Zz.mk (Below.refl w.heap.size w)
 have H:((laws_eqNodeS.f k l0_0 l1_0).bind fun t170=>(if t170=true then (some true) else (some false)))=some r:=h
 clear h
 replace H:=Option.bind_eq_some_iff.mp H
 obtain ⟨t170,A30,H⟩:=H
 replace H:(if t170=true then (some true) else (some false))=some r:=H
 have A3:=Zz.mk A30
 clear A30
 by_cases c4:t170=true
 ·subst c4
  have H1:(some true)=some r:=by rw [if_pos rfl] at H;exact H
  clear H
  have H:=H1
  clear H1
  obtain rfl:=Option.some.inj H
  go_enter Try.func7,Try.ntmps7
  go_wp2_with (first|((with_reducible refine gate_dst (N:=2) rfl ?_);refine box_event ?hg (N:=2) ?hd (cs:=#[.slice A0_0 l0_0.length c0_0]) (t:=24) ?hr ?_;(case hd=>rfl);(case hg=>rfl);(case hr=>first|(go_simp;done)|(go_simp;rfl));intro gb168 hg w5 hbox hb;have n0_:=Zz.mk (qP (by repeat (first|(with_reducible first|exact HB.out|apply qA|apply qN|apply q1_)|exact HB.out)) hb);have n1_:=Zz.mk (hbox);have n2_:=Zz.mk ((by rw [hg];exact (qZ (by repeat (first|(with_reducible first|exact HB.out|apply qA|apply qN|apply q1_)|exact HB.out))):w.heap.size≤gb168));have n3_:=Zz.mk ((by rw [hg];exact (qZ (by repeat (first|(with_reducible first|exact HB.out|apply qA|apply qN|apply q1_)|exact HB.out))):w.heap.size≤gb168));clear HB;have HB:=n0_;have BK168:=n1_;have GW168:=n2_;have GE168:=n3_;clear n0_ n1_ n2_ n3_;clear hb hbox hg)|((with_reducible refine gate_dst (N:=3) rfl ?_);refine box_event ?hg (N:=3) ?hd (cs:=#[.slice A1_0 l1_0.length c1_0]) (t:=24) ?hr ?_;(case hd=>rfl);(case hg=>rfl);(case hr=>first|(go_simp;done)|(go_simp;rfl));intro gb169 hg w6 hbox hb;have n0_:=Zz.mk (bB (g:=gb168) (o:=.cells #[.slice A0_0 l0_0.length c0_0] 24 (0,0)) (by (with_reducible repeat first|apply bN|apply bD|apply bA);exact BK168.out) hb);have n1_:=Zz.mk (qP (by repeat (first|(with_reducible first|exact HB.out|apply qA|apply qN|apply q1_|refine qS ?_ GE168.out)|exact HB.out)) hb);have n2_:=Zz.mk (hbox);have n3_:=Zz.mk ((by rw [hg];exact (qZ (by repeat (first|(with_reducible first|exact HB.out|apply qA|apply qN|apply q1_|refine qS ?_ GE168.out)|exact HB.out))):w.heap.size≤gb169));have n4_:=Zz.mk ((by rw [hg];exact (qZ (by repeat (first|(with_reducible first|exact HB.out|apply qA|apply qN|apply q1_|refine qS ?_ GE168.out)|exact HB.out))):w.heap.size≤gb169));have n5_:=Zz.mk ((by rw [hg];exact Nat.ne_of_lt (blk_lt (g:=gb168) (o:=.cells #[.slice A0_0 l0_0.length c0_0] 24 (0,0)) (by (with_reducible repeat first|apply bN|apply bD|apply bA);exact BK168.out)):gb168 ≠ gb169));have n6_:=Zz.mk ((by rw [hg];exact Nat.ne_of_gt (blk_lt (g:=gb168) (o:=.cells #[.slice A0_0 l0_0.length c0_0] 24 (0,0)) (by (with_reducible repeat first|apply bN|apply bD|apply bA);exact BK168.out)):gb169 ≠ gb168));clear BK168;clear HB;have BK168:=n0_;have HB:=n1_;have BK169:=n2_;have GW169:=n3_;have GE169:=n4_;have NB168_169:=n5_;have NB169_168:=n6_;clear n0_ n1_ n2_ n3_ n4_ n5_ n6_;clear hb hbox hg;have hnb7:=NB168_169.out;have hnc7:=NB169_168.out;have hcz8_0:w6.cell? ⟨gb168,0,none⟩=some (.slice A0_0 l0_0.length c0_0):=(bC BK168.out 0).trans rfl;have hfz8_0:=bF BK168.out 0;have hcz9_0:w6.cell? ⟨gb169,0,none⟩=some (.slice A1_0 l1_0.length c1_0):=(bC BK169.out 0).trans rfl;have hfz9_0:=bF BK169.out 0)|((with_reducible refine gate_callee (f:=20) rfl ?_);refine goesL_ (some 9) rfl rfl Try.func20 (by kernel_rfl) rfl #[.slice A0_0 l0_0.length c0_0,.slice A1_0 l1_0.length c1_0] rfl (by (try simp only [List.map_toArray,List.map_cons,List.map_nil]);first|done|rfl|(simp only [List.length_drop,List.length_take];rfl)) ?_;(with_reducible refine (laws_eqNodeS.calls k _ _ l0_0 _ _ l1_0 true _ ?side1 ?side2 ?side3 ?side4 A3.out).mono ?_);(case side1=>repeat (first|exact (Kd.C_below HR0_0.out HB.out)|(with_reducible refine Kd.C_alloc ?_ _)|(with_reducible refine Kd.C_drewN ?_ _)|(with_reducible refine Kd.C_drew ?_)));(case side2=>exact HC0_0.out);(case side3=>repeat (first|exact (Kd.C_below HR1_0.out HB.out)|(with_reducible refine Kd.C_alloc ?_ _)|(with_reducible refine Kd.C_drewN ?_ _)|(with_reducible refine Kd.C_drew ?_)));(case side4=>exact HC1_0.out);rintro e w10 ⟨rfl,hb⟩;refine ⟨_,rfl,?_⟩;have n0_:=Zz.mk (bB (g:=gb168) (o:=.cells #[.slice A0_0 l0_0.length c0_0] 24 (0,0)) (by (with_reducible repeat first|apply bN|apply bD|apply bA);exact BK168.out) hb);have n1_:=Zz.mk (bB (g:=gb169) (o:=.cells #[.slice A1_0 l1_0.length c1_0] 24 (0,0)) (by (with_reducible repeat first|apply bN|apply bD|apply bA);exact BK169.out) hb);have n2_:=Zz.mk (qP (by repeat (first|(with_reducible first|exact HB.out|apply qA|apply qN|apply q1_|refine qS ?_ GE168.out|refine qS ?_ GE169.out)|exact HB.out)) hb);clear BK168;clear BK169;clear HB;have BK168:=n0_;have BK169:=n1_;have HB:=n2_;clear n0_ n1_ n2_;(try clear hb);(try clear hb2);(try clear hk);(try clear hi)))
  go_ret
  exact ⟨by first|rfl|(simp [errW_none,errW_some] <;> rfl)|(simp [*,errW_none,errW_some] <;> rfl),by repeat (first|(with_reducible first|exact HB.out|apply qA|apply qN|apply q1_|refine qS ?_ GE168.out|refine qS ?_ GE169.out)|exact HB.out)⟩
 ·replace c4:=Bool.eq_false_iff.mpr c4
  subst c4
  have H1:(some false)=some r:=by rw [if_neg (show ¬ (false=true) by decide)] at H;exact H
  clear H
  have H:=H1
  clear H1
  obtain rfl:=Option.some.inj H
  go_enter Try.func7,Try.ntmps7
  go_wp2_with (first|((with_reducible refine gate_dst (N:=2) rfl ?_);refine box_event ?hg (N:=2) ?hd (cs:=#[.slice A0_0 l0_0.length c0_0]) (t:=24) ?hr ?_;(case hd=>rfl);(case hg=>rfl);(case hr=>first|(go_simp;done)|(go_simp;rfl));intro gb168 hg w11 hbox hb;have n0_:=Zz.mk (qP (by repeat (first|(with_reducible first|exact HB.out|apply qA|apply qN|apply q1_)|exact HB.out)) hb);have n1_:=Zz.mk (hbox);have n2_:=Zz.mk ((by rw [hg];exact (qZ (by repeat (first|(with_reducible first|exact HB.out|apply qA|apply qN|apply q1_)|exact HB.out))):w.heap.size≤gb168));have n3_:=Zz.mk ((by rw [hg];exact (qZ (by repeat (first|(with_reducible first|exact HB.out|apply qA|apply qN|apply q1_)|exact HB.out))):w.heap.size≤gb168));clear HB;have HB:=n0_;have BK168:=n1_;have GW168:=n2_;have GE168:=n3_;clear n0_ n1_ n2_ n3_;clear hb hbox hg)|((with_reducible refine gate_dst (N:=3) rfl ?_);refine box_event ?hg (N:=3) ?hd (cs:=#[.slice A1_0 l1_0.length c1_0]) (t:=24) ?hr ?_;(case hd=>rfl);(case hg=>rfl);(case hr=>first|(go_simp;done)|(go_simp;rfl));intro gb169 hg w12 hbox hb;have n0_:=Zz.mk (bB (g:=gb168) (o:=.cells #[.slice A0_0 l0_0.length c0_0] 24 (0,0)) (by (with_reducible repeat first|apply bN|apply bD|apply bA);exact BK168.out) hb);have n1_:=Zz.mk (qP (by repeat (first|(with_reducible first|exact HB.out|apply qA|apply qN|apply q1_|refine qS ?_ GE168.out)|exact HB.out)) hb);have n2_:=Zz.mk (hbox);have n3_:=Zz.mk ((by rw [hg];exact (qZ (by repeat (first|(with_reducible first|exact HB.out|apply qA|apply qN|apply q1_|refine qS ?_ GE168.out)|exact HB.out))):w.heap.size≤gb169));have n4_:=Zz.mk ((by rw [hg];exact (qZ (by repeat (first|(with_reducible first|exact HB.out|apply qA|apply qN|apply q1_|refine qS ?_ GE168.out)|exact HB.out))):w.heap.size≤gb169));have n5_:=Zz.mk ((by rw [hg];exact Nat.ne_of_lt (blk_lt (g:=gb168) (o:=.cells #[.slice A0_0 l0_0.length c0_0] 24 (0,0)) (by (with_reducible repeat first|apply bN|apply bD|apply bA);exact BK168.out)):gb168 ≠ gb169));have n6_:=Zz.mk ((by rw [hg];exact Nat.ne_of_gt (blk_lt (g:=gb168) (o:=.cells #[.slice A0_0 l0_0.length c0_0] 24 (0,0)) (by (with_reducible repeat first|apply bN|apply bD|apply bA);exact BK168.out)):gb169 ≠ gb168));clear BK168;clear HB;have BK168:=n0_;have HB:=n1_;have BK169:=n2_;have GW169:=n3_;have GE169:=n4_;have NB168_169:=n5_;have NB169_168:=n6_;clear n0_ n1_ n2_ n3_ n4_ n5_ n6_;clear hb hbox hg;have hnb13:=NB168_169.out;have hnc13:=NB169_168.out;have hcz14_0:w12.cell? ⟨gb168,0,none⟩=some (.slice A0_0 l0_0.length c0_0):=(bC BK168.out 0).trans rfl;have hfz14_0:=bF BK168.out 0;have hcz15_0:w12.cell? ⟨gb169,0,none⟩=some (.slice A1_0 l1_0.length c1_0):=(bC BK169.out 0).trans rfl;have hfz15_0:=bF BK169.out 0)|((with_reducible refine gate_callee (f:=20) rfl ?_);refine goesL_ (some 9) rfl rfl Try.func20 (by kernel_rfl) rfl #[.slice A0_0 l0_0.length c0_0,.slice A1_0 l1_0.length c1_0] rfl (by (try simp only [List.map_toArray,List.map_cons,List.map_nil]);first|done|rfl|(simp only [List.length_drop,List.length_take];rfl)) ?_;(with_reducible refine (laws_eqNodeS.calls k _ _ l0_0 _ _ l1_0 false _ ?side1 ?side2 ?side3 ?side4 A3.out).mono ?_);(case side1=>repeat (first|exact (Kd.C_below HR0_0.out HB.out)|(with_reducible refine Kd.C_alloc ?_ _)|(with_reducible refine Kd.C_drewN ?_ _)|(with_reducible refine Kd.C_drew ?_)));(case side2=>exact HC0_0.out);(case side3=>repeat (first|exact (Kd.C_below HR1_0.out HB.out)|(with_reducible refine Kd.C_alloc ?_ _)|(with_reducible refine Kd.C_drewN ?_ _)|(with_reducible refine Kd.C_drew ?_)));(case side4=>exact HC1_0.out);rintro e w16 ⟨rfl,hb⟩;refine ⟨_,rfl,?_⟩;have n0_:=Zz.mk (bB (g:=gb168) (o:=.cells #[.slice A0_0 l0_0.length c0_0] 24 (0,0)) (by (with_reducible repeat first|apply bN|apply bD|apply bA);exact BK168.out) hb);have n1_:=Zz.mk (bB (g:=gb169) (o:=.cells #[.slice A1_0 l1_0.length c1_0] 24 (0,0)) (by (with_reducible repeat first|apply bN|apply bD|apply bA);exact BK169.out) hb);have n2_:=Zz.mk (qP (by repeat (first|(with_reducible first|exact HB.out|apply qA|apply qN|apply q1_|refine qS ?_ GE168.out|refine qS ?_ GE169.out)|exact HB.out)) hb);clear BK168;clear BK169;clear HB;have BK168:=n0_;have BK169:=n1_;have HB:=n2_;clear n0_ n1_ n2_;(try clear hb);(try clear hb2);(try clear hk);(try clear hi)))
  go_ret
  exact ⟨by first|rfl|(simp [errW_none,errW_some] <;> rfl)|(simp [*,errW_none,errW_some] <;> rfl),by repeat (first|(with_reducible first|exact HB.out|apply qA|apply qN|apply q1_|refine qS ?_ GE168.out|refine qS ?_ GE169.out)|exact HB.out)⟩
def laws_markNodeS.l0:Nat→List (S62)→Int→Int→Option (Int × (List (S62)))
 | 0,_,_,_=>none
 | k+1,x0,x1,x5=>if x5<(x0.length:Int) then (if 0≤x5 then ((some (x0.set (x5:Int).toNat (⟨x1,(rT x0 x5).f1,(rT x0 x5).f2⟩:S62):List (S62))).bind fun y171=>((some (y171.set (x5:Int).toNat (⟨(rT y171 x5).f0,wrap64 (x1+1),(rT y171 x5).f2⟩:S62):List (S62))).bind fun y172=>(laws_markNodeS.l0 k (y172.set (x5:Int).toNat (⟨(rT y172 x5).f0,(rT y172 x5).f1,((Int.tmod (wrap64 ((wrap64 (x1+1))+1)) 3) == 0)⟩:S62)) (wrap64 ((wrap64 ((wrap64 (x1+1))+1))+1)) (wrap64 (x5+1))))) else (none)) else (some (x1,x0))
def laws_markNodeS.f (k:Nat) (l0:List (S62)) (a1:Int):Option (Int × (List (S62))):=laws_markNodeS.l0 k l0 a1 0
set_option maxHeartbeats 8000000 in
set_option maxRecDepth 100000 in
theorem laws_markNodeS.calls (k:Nat) (P0_:Nat→Prop) (u9000_:Value) (l0:List (S62)) (a1:Int) (r1:Int) (r2:List (S62)) (w0 w:World) (hB:Below w0.heap.size w0 w) (ho0:Kd.R k62 62 w w0.heap.size P0_ u9000_ l0) (h:laws_markNodeS.f k l0 a1=some (r1,r2)) :
  Calls Try.prog 21 #[u9000_,.int .i64 a1] w fun e w'=>e=.returned (.int .i64 r1)∧Kd.R k62 62 w' w0.heap.size (fun k_=>(P0_ k_∨w.heap.size≤k_)) u9000_ r2∧Below w0.heap.size w0 w'∧Kept w w' (fun k_=>P0_ k_):=by
 have HO0:=Zz.mk (show Kd.R k62 62 w w0.heap.size (fun k_=>(P0_ k_∨w.heap.size≤k_)) u9000_ l0 from Kd.R_mono ho0 (fun k_ hk=>(.inl hk)))
 have HK:=Zz.mk (Kept.refl w (fun k_=>P0_ k_))
 have HW0:=Zz.mk hB.size
 have HB:=Zz.mk hB
 clear hB
 have H:(laws_markNodeS.l0 k l0 a1 0)=some (r1,r2):=h
 clear h
 have H':=Zz.mk H
 clear H
 go_enter Try.func21,Try.ntmps21
 go_wp2
 go_loopg [1,5] k (fun kq v1 v5 w'=>∃ (x0_1:List (S62)) (x1_1:Int) (x5_1:Int),v1=.int .i64 x1_1∧v5=.int .i64 x5_1∧Zz (laws_markNodeS.l0 kq x0_1 x1_1 x5_1=some (r1,r2))∧Zz (kq≤k)∧Zz (Kd.R k62 62 w' w0.heap.size (fun k_=>(P0_ k_∨w.heap.size≤k_)) u9000_ x0_1)∧Zz (Kept w w' (fun k_=>P0_ k_))∧Zz (Below w0.heap.size w0 w'))
 case atStart=>exact ⟨(l0),(a1),(0),(by first|rfl|(simp;done)|(simp [*];done)),(by first|rfl|(simp;done)|(simp [*];done)),H',⟨Nat.le_refl _⟩,⟨by (with_reducible repeat first|apply Kd.R_alloc|apply Kd.R_drewN|apply Kd.R_drew);exact HO0.out⟩,⟨by repeat (first|(with_reducible first|exact HK.out|apply Kept.alloc|apply Kept.drewN|apply Kept.drew)|exact HK.out)⟩,⟨by repeat (first|(with_reducible first|exact HB.out|apply qA|apply qN|apply q1_)|exact HB.out)⟩⟩
 case round =>
  clear H'
  try clear c2
  try clear p2
  obtain ⟨x0_1,x1_1,x5_1,rfl,rfl,HA,HK1,HO_0,HK,HB⟩:=hrel
  cases gk with
  | zero=>exact absurd HA.out (by simp [laws_markNodeS.l0])
  | succ k1 =>
   have H:=HA.out
   clear HA
   simp only [laws_markNodeS.l0] at H
   by_cases c3:x5_1<(x0_1.length:Int)
   ·rw [if_pos c3] at H
    have c3b0:decide (x5_1<(x0_1.length:Int))=true:=decide_eq_true c3
    clear c3
    by_cases c4:0≤x5_1
    ·rw [if_pos c4] at H
     have c4b0:decide (0≤x5_1)=true:=decide_eq_true c4
     clear c4
     obtain ⟨y171,hy171⟩:∃ y_:List (S62),y_=(x0_1.set (x5_1:Int).toNat (⟨x1_1,(rT x0_1 x5_1).f1,(rT x0_1 x5_1).f2⟩:S62)):=⟨_,rfl⟩
     replace H:((some (y171.set (x5_1:Int).toNat (⟨(rT y171 x5_1).f0,wrap64 (x1_1+1),(rT y171 x5_1).f2⟩:S62):List (S62))).bind fun y172=>(laws_markNodeS.l0 k1 (y172.set (x5_1:Int).toNat (⟨(rT y172 x5_1).f0,(rT y172 x5_1).f1,((Int.tmod (wrap64 ((wrap64 (x1_1+1))+1)) 3) == 0)⟩:S62)) (wrap64 ((wrap64 ((wrap64 (x1_1+1))+1))+1)) (wrap64 (x5_1+1))))=some (r1,r2):=by first|(rw [hy171];with_reducible exact H)|(have H2_:=(Option.bind_some _ _).symm.trans H;rw [hy171];with_reducible exact H2_)|(have H2_:=(Option.bind_some _ _).symm.trans H;with_reducible exact H2_)|with_reducible exact H|(rw [hy171];exact H)|exact H
     have Ny171:=Zz.mk hy171
     clear hy171
     obtain ⟨y172,hy172⟩:∃ y_:List (S62),y_=(y171.set (x5_1:Int).toNat (⟨(rT y171 x5_1).f0,wrap64 (x1_1+1),(rT y171 x5_1).f2⟩:S62)):=⟨_,rfl⟩
     replace H:(laws_markNodeS.l0 k1 (y172.set (x5_1:Int).toNat (⟨(rT y172 x5_1).f0,(rT y172 x5_1).f1,((Int.tmod (wrap64 ((wrap64 (x1_1+1))+1)) 3) == 0)⟩:S62)) (wrap64 ((wrap64 ((wrap64 (x1_1+1))+1))+1)) (wrap64 (x5_1+1)))=some (r1,r2):=by first|(rw [hy172];with_reducible exact H)|(have H2_:=(Option.bind_some _ _).symm.trans H;rw [hy172];with_reducible exact H2_)|(have H2_:=(Option.bind_some _ _).symm.trans H;with_reducible exact H2_)|with_reducible exact H|(rw [hy172];exact H)|exact H
     have Ny172:=Zz.mk hy172
     clear hy172
     obtain ⟨y173,hy173⟩:∃ y_:List (S62),y_=(y172.set (x5_1:Int).toNat (⟨(rT y172 x5_1).f0,(rT y172 x5_1).f1,((Int.tmod (wrap64 ((wrap64 (x1_1+1))+1)) 3) == 0)⟩:S62)):=⟨_,rfl⟩
     replace H:(laws_markNodeS.l0 k1 y173 (wrap64 ((wrap64 ((wrap64 (x1_1+1))+1))+1)) (wrap64 (x5_1+1)))=some (r1,r2):=by first|(rw [hy173];with_reducible exact H)|(have H2_:=(Option.bind_some _ _).symm.trans H;rw [hy173];with_reducible exact H2_)|(have H2_:=(Option.bind_some _ _).symm.trans H;with_reducible exact H2_)|with_reducible exact H|(rw [hy173];exact H)|exact H
     have Ny173:=Zz.mk hy173
     clear hy173
     have H':=Zz.mk H
     clear H
     obtain ⟨Ao8,co8,eo8⟩:=Kd.R_slice HO_0.out
     subst eo8
     have p5:0≤(x5_1:Int):=of_decide_eq_true (by first|(with_reducible assumption)|assumption)
     have q5:(x5_1:Int)<((x0_1.length:Int):Int):=of_decide_eq_true (by first|(with_reducible assumption)|assumption)
     obtain ⟨go5,co5,eo5,gb5,gl5,cl5,HG5⟩:=Kd.R_form HO_0.out (by omega)
     (first|cases eo5|(injection eo5 with ea_ en_ ec_;(first|subst ea_|(injection ea_ with ea_;subst ea_));subst ec_;clear en_))
     have GB5:=Zz.mk gb5
     have GG5:=Zz.mk HG5
     clear gb5 gl5 HG5
     have HMgo5:=Zz.mk (show (P0_ go5∨w.heap.size≤go5) from (HO_0.out.1 _ rfl))
     obtain ⟨ce5,hcl5,hM5,hcc5,hfr5⟩:=Kd.R_elem HO_0.out z62 (x5_1:Int) p5 q5
     obtain rfl:=k62_openM hM5
     have hx5_0:wr.cell? ⟨go5,(x5_1:Int).toNat * 3,none⟩=some (.int .i64 ((rT x0_1 x5_1).f0)):=hcc5 0 _ rfl
     have hx5_1:wr.cell? ⟨go5,(x5_1:Int).toNat * 3+1,none⟩=some (.int .i64 ((rT x0_1 x5_1).f1)):=hcc5 1 _ rfl
     have hx5_2:wr.cell? ⟨go5,(x5_1:Int).toNat * 3+2,none⟩=some (.bool ((rT x0_1 x5_1).f2)):=hcc5 2 _ rfl
     have hf5_0:wr.frozen? ⟨go5,(x5_1:Int).toNat * 3,none⟩=false:=hfr5 0
     have hf5_1:wr.frozen? ⟨go5,(x5_1:Int).toNat * 3+1,none⟩=false:=hfr5 1
     have hf5_2:wr.frozen? ⟨go5,(x5_1:Int).toNat * 3+2,none⟩=false:=hfr5 2
     clear hcl5 hcc5 hfr5 hM5
     replace p5:=eq_true p5
     replace q5:=eq_true q5
     have HX9:=Zz.mk (show Kd.R k62 62 wr w0.heap.size (fun k_=>(P0_ k_∨w.heap.size≤k_)) (.slice (some ⟨go5,0,none⟩) x0_1.length co8) x0_1 from (by (with_reducible repeat first|apply Kd.R_alloc|apply Kd.R_drewN|apply Kd.R_drew);exact HO_0.out))
     obtain ⟨ce9,hcl9,hM9,hcc9,hfr9⟩:=Kd.R_elem HX9.out z62 (x5_1:Int) (of_decide_eq_true (by first|(with_reducible assumption)|assumption)) (by have h_:(x5_1:Int)<((x0_1.length:Int):Int):=of_decide_eq_true (by first|(with_reducible assumption)|assumption);first|exact h_|(have e_:=(Kd.R_reads' HO_0.out).1;omega)|simpa using h_)
     obtain rfl:=k62_openM hM9
     have HP9:=Kd.R_seg HX9.out (x5_1:Int) (of_decide_eq_true (by first|(with_reducible assumption)|assumption)) (by have h_:(x5_1:Int)<((x0_1.length:Int):Int):=of_decide_eq_true (by first|(with_reducible assumption)|assumption);first|exact h_|(have e_:=(Kd.R_reads' HO_0.out).1;omega)|simpa using h_) (seg:=[.int .i64 x1_1]) (j:=0) hcl9 hcc9 (show 1≤3 from by decide) (x':=(⟨x1_1,(rT x0_1 x5_1).f1,(rT x0_1 x5_1).f2⟩:S62)) (k62_mkM _ _ _ (⟨x1_1,(rT x0_1 x5_1).f1,(rT x0_1 x5_1).f2⟩:S62) ) (fun _ hk=>hk)
     have hx9_0:=hcc9 0 _ rfl
     (try simp only [show (k62).sz=3 from rfl,Nat.mul_one,Nat.add_zero] at hx9_0)
     have hf9_0:=hfr9 0
     (try simp only [show (k62).sz=3 from rfl,Nat.mul_one,Nat.add_zero] at hf9_0)
     clear hcl9 hcc9 hfr9 hM9
     go_wp2_with (first|((with_reducible refine gate_store (t:=3) (p:=16) rfl ?_);refine store_event (t:=3) (p:=16) (v:=?vo_w10) (w1:=(wr.setCell ⟨go5,(x5_1:Int).toNat * 3,none⟩ (.int .i64 x1_1))) ?hg ?ho ?hn ?hr ?_;(case ho=>rfl);(case hg=>rfl);(case hn=>rfl);(case hr=>first|(go_simp;done)|(go_simp;rfl));intro w10 hw;have hg:wr.grownBy w10 (some go5):=(by rw [hw];exact HP9.2);have hp_:Kd.R k62 62 w10 w0.heap.size (fun k_=>(P0_ k_∨w.heap.size≤k_)) (.slice (some ⟨go5,0,none⟩) x0_1.length co8) y171:=(by rw [hw,Ny171.out];exact HP9.1);clear HP9;have n0_:=Zz.mk (hp_);have n1_:=Zz.mk ((by rw [hw];exact qS (HB.out) GB5.out:Below w0.heap.size w0 w10));have n2_:=Zz.mk (Kept.of_grown (S:=(fun k_=>P0_ k_)) hg (by repeat (first|(with_reducible first|exact HK.out|apply Kept.alloc|apply Kept.drewN|apply Kept.drew)|exact HK.out)) (fun k_ e_=>(HO_0.out.1 k_ e_)));clear HO_0;clear HB;clear HK;have HO_0:=n0_;have HB:=n1_;have HK:=n2_;clear n0_ n1_ n2_;clear hg hw hp_;have p6:0≤(x5_1:Int):=of_decide_eq_true (by first|(with_reducible assumption)|assumption);have q6:(x5_1:Int)<((x0_1.length:Int):Int):=of_decide_eq_true (by first|(with_reducible assumption)|assumption);obtain ⟨ce6,hcl6,hM6,hcc6,hfr6⟩:=Kd.R_elem HO_0.out z62 (x5_1:Int) p6 q6;obtain rfl:=k62_openM hM6;have hx6_0:w10.cell? ⟨go5,(x5_1:Int).toNat * 3,none⟩=some (.int .i64 ((rT y171 x5_1).f0)):=hcc6 0 _ rfl;have hx6_1:w10.cell? ⟨go5,(x5_1:Int).toNat * 3+1,none⟩=some (.int .i64 ((rT y171 x5_1).f1)):=hcc6 1 _ rfl;have hx6_2:w10.cell? ⟨go5,(x5_1:Int).toNat * 3+2,none⟩=some (.bool ((rT y171 x5_1).f2)):=hcc6 2 _ rfl;have hf6_0:w10.frozen? ⟨go5,(x5_1:Int).toNat * 3,none⟩=false:=hfr6 0;have hf6_1:w10.frozen? ⟨go5,(x5_1:Int).toNat * 3+1,none⟩=false:=hfr6 1;have hf6_2:w10.frozen? ⟨go5,(x5_1:Int).toNat * 3+2,none⟩=false:=hfr6 2;clear hcl6 hcc6 hfr6 hM6;replace p6:=eq_true p6;replace q6:=eq_true q6;have HX11:=Zz.mk (show Kd.R k62 62 w10 w0.heap.size (fun k_=>(P0_ k_∨w.heap.size≤k_)) (.slice (some ⟨go5,0,none⟩) x0_1.length co8) y171 from (by (with_reducible repeat first|apply Kd.R_alloc|apply Kd.R_drewN|apply Kd.R_drew);exact HO_0.out));obtain ⟨ce11,hcl11,hM11,hcc11,hfr11⟩:=Kd.R_elem HX11.out z62 (x5_1:Int) (of_decide_eq_true (by first|(with_reducible assumption)|assumption)) (by have h_:(x5_1:Int)<((x0_1.length:Int):Int):=of_decide_eq_true (by first|(with_reducible assumption)|assumption);first|exact h_|(have e_:=(Kd.R_reads' HO_0.out).1;omega)|simpa using h_);obtain rfl:=k62_openM hM11;have HP11:=Kd.R_seg HX11.out (x5_1:Int) (of_decide_eq_true (by first|(with_reducible assumption)|assumption)) (by have h_:(x5_1:Int)<((x0_1.length:Int):Int):=of_decide_eq_true (by first|(with_reducible assumption)|assumption);first|exact h_|(have e_:=(Kd.R_reads' HO_0.out).1;omega)|simpa using h_) (seg:=[.int .i64 (wrap64 (x1_1+1))]) (j:=1) hcl11 hcc11 (show 2≤3 from by decide) (x':=(⟨(rT y171 x5_1).f0,wrap64 (x1_1+1),(rT y171 x5_1).f2⟩:S62)) (k62_mkM _ _ _ (⟨(rT y171 x5_1).f0,wrap64 (x1_1+1),(rT y171 x5_1).f2⟩:S62) ) (fun _ hk=>hk);have hx11_1:=hcc11 1 _ rfl;(try simp only [show (k62).sz=3 from rfl,Nat.mul_one,Nat.add_zero] at hx11_1);have hf11_1:=hfr11 1;(try simp only [show (k62).sz=3 from rfl,Nat.mul_one,Nat.add_zero] at hf11_1);clear hcl11 hcc11 hfr11 hM11)|((with_reducible refine gate_store (t:=3) (p:=23) rfl ?_);refine store_event (t:=3) (p:=23) (v:=?vo_w12) (w1:=(w10.setCell ⟨go5,(x5_1:Int).toNat * 3+1,none⟩ (.int .i64 (wrap64 (x1_1+1))))) ?hg ?ho ?hn ?hr ?_;(case ho=>rfl);(case hg=>rfl);(case hn=>rfl);(case hr=>first|(go_simp;done)|(go_simp;rfl));intro w12 hw;have hg:w10.grownBy w12 (some go5):=(by rw [hw];exact HP11.2);have hp_:Kd.R k62 62 w12 w0.heap.size (fun k_=>(P0_ k_∨w.heap.size≤k_)) (.slice (some ⟨go5,0,none⟩) x0_1.length co8) y172:=(by rw [hw,Ny172.out];exact HP11.1);clear HP11;have n0_:=Zz.mk (hp_);have n1_:=Zz.mk ((by rw [hw];exact qS (HB.out) GB5.out:Below w0.heap.size w0 w12));have n2_:=Zz.mk (Kept.of_grown (S:=(fun k_=>P0_ k_)) hg (by repeat (first|(with_reducible first|exact HK.out|apply Kept.alloc|apply Kept.drewN|apply Kept.drew)|exact HK.out)) (fun k_ e_=>(HO_0.out.1 k_ e_)));clear HO_0;clear HB;clear HK;have HO_0:=n0_;have HB:=n1_;have HK:=n2_;clear n0_ n1_ n2_;clear hg hw hp_;have p7:0≤(x5_1:Int):=of_decide_eq_true (by first|(with_reducible assumption)|assumption);have q7:(x5_1:Int)<((x0_1.length:Int):Int):=of_decide_eq_true (by first|(with_reducible assumption)|assumption);obtain ⟨ce7,hcl7,hM7,hcc7,hfr7⟩:=Kd.R_elem HO_0.out z62 (x5_1:Int) p7 q7;obtain rfl:=k62_openM hM7;have hx7_0:w12.cell? ⟨go5,(x5_1:Int).toNat * 3,none⟩=some (.int .i64 ((rT y172 x5_1).f0)):=hcc7 0 _ rfl;have hx7_1:w12.cell? ⟨go5,(x5_1:Int).toNat * 3+1,none⟩=some (.int .i64 ((rT y172 x5_1).f1)):=hcc7 1 _ rfl;have hx7_2:w12.cell? ⟨go5,(x5_1:Int).toNat * 3+2,none⟩=some (.bool ((rT y172 x5_1).f2)):=hcc7 2 _ rfl;have hf7_0:w12.frozen? ⟨go5,(x5_1:Int).toNat * 3,none⟩=false:=hfr7 0;have hf7_1:w12.frozen? ⟨go5,(x5_1:Int).toNat * 3+1,none⟩=false:=hfr7 1;have hf7_2:w12.frozen? ⟨go5,(x5_1:Int).toNat * 3+2,none⟩=false:=hfr7 2;clear hcl7 hcc7 hfr7 hM7;replace p7:=eq_true p7;replace q7:=eq_true q7;have HX13:=Zz.mk (show Kd.R k62 62 w12 w0.heap.size (fun k_=>(P0_ k_∨w.heap.size≤k_)) (.slice (some ⟨go5,0,none⟩) x0_1.length co8) y172 from (by (with_reducible repeat first|apply Kd.R_alloc|apply Kd.R_drewN|apply Kd.R_drew);exact HO_0.out));obtain ⟨ce13,hcl13,hM13,hcc13,hfr13⟩:=Kd.R_elem HX13.out z62 (x5_1:Int) (of_decide_eq_true (by first|(with_reducible assumption)|assumption)) (by have h_:(x5_1:Int)<((x0_1.length:Int):Int):=of_decide_eq_true (by first|(with_reducible assumption)|assumption);first|exact h_|(have e_:=(Kd.R_reads' HO_0.out).1;omega)|simpa using h_);obtain rfl:=k62_openM hM13;have HP13:=Kd.R_seg HX13.out (x5_1:Int) (of_decide_eq_true (by first|(with_reducible assumption)|assumption)) (by have h_:(x5_1:Int)<((x0_1.length:Int):Int):=of_decide_eq_true (by first|(with_reducible assumption)|assumption);first|exact h_|(have e_:=(Kd.R_reads' HO_0.out).1;omega)|simpa using h_) (seg:=[.bool ((Int.tmod (wrap64 ((wrap64 (x1_1+1))+1)) 3) == 0)]) (j:=2) hcl13 hcc13 (show 3≤3 from by decide) (x':=(⟨(rT y172 x5_1).f0,(rT y172 x5_1).f1,((Int.tmod (wrap64 ((wrap64 (x1_1+1))+1)) 3) == 0)⟩:S62)) (k62_mkM _ _ _ (⟨(rT y172 x5_1).f0,(rT y172 x5_1).f1,((Int.tmod (wrap64 ((wrap64 (x1_1+1))+1)) 3) == 0)⟩:S62) ) (fun _ hk=>hk);have hx13_2:=hcc13 2 _ rfl;(try simp only [show (k62).sz=3 from rfl,Nat.mul_one,Nat.add_zero] at hx13_2);have hf13_2:=hfr13 2;(try simp only [show (k62).sz=3 from rfl,Nat.mul_one,Nat.add_zero] at hf13_2);clear hcl13 hcc13 hfr13 hM13)|((with_reducible refine gate_store (t:=4) (p:=32) rfl ?_);refine store_event (t:=4) (p:=32) (v:=?vo_w14) (w1:=(w12.setCell ⟨go5,(x5_1:Int).toNat * 3+2,none⟩ (.bool ((Int.tmod (wrap64 ((wrap64 (x1_1+1))+1)) 3) == 0)))) ?hg ?ho ?hn ?hr ?_;(case ho=>rfl);(case hg=>rfl);(case hn=>rfl);(case hr=>first|(go_simp;done)|(go_simp;rfl));intro w14 hw;have hg:w12.grownBy w14 (some go5):=(by rw [hw];exact HP13.2);have hp_:Kd.R k62 62 w14 w0.heap.size (fun k_=>(P0_ k_∨w.heap.size≤k_)) (.slice (some ⟨go5,0,none⟩) x0_1.length co8) y173:=(by rw [hw,Ny173.out];exact HP13.1);clear HP13;have n0_:=Zz.mk (hp_);have n1_:=Zz.mk ((by rw [hw];exact qS (HB.out) GB5.out:Below w0.heap.size w0 w14));have n2_:=Zz.mk (Kept.of_grown (S:=(fun k_=>P0_ k_)) hg (by repeat (first|(with_reducible first|exact HK.out|apply Kept.alloc|apply Kept.drewN|apply Kept.drew)|exact HK.out)) (fun k_ e_=>(HO_0.out.1 k_ e_)));clear HO_0;clear HB;clear HK;have HO_0:=n0_;have HB:=n1_;have HK:=n2_;clear n0_ n1_ n2_;clear hg hw hp_))
     go_roundg k1
     case measure=>have:=HK1.out;omega
     case rel=>exact ⟨(y173),(wrap64 ((wrap64 ((wrap64 (x1_1+1))+1))+1)),(wrap64 (x5_1+1)),(by first|rfl|(simp;done)|(simp [*];done)),(by first|rfl|(simp;done)|(simp [*];done)),H',⟨by have:=HK1.out;omega⟩,⟨by (with_reducible repeat first|apply Kd.R_alloc|apply Kd.R_drewN|apply Kd.R_drew);exact HO_0.out⟩,⟨by repeat (first|(with_reducible first|exact HK.out|apply Kept.alloc|apply Kept.drewN|apply Kept.drew)|exact HK.out)⟩,⟨by repeat (first|(with_reducible first|exact HB.out|apply qA|apply qN|apply q1_)|exact HB.out)⟩⟩
    ·rw [if_neg c4] at H
     exact absurd H (by simp)
   ·rw [if_neg c3] at H
    have c3b0:decide (x5_1<(x0_1.length:Int))=false:=decide_eq_false c3
    clear c3
    simp only [Option.some.injEq,Prod.mk.injEq] at H
    obtain ⟨rfl,rfl⟩:=H
    obtain ⟨Ao15,co15,eo15⟩:=Kd.R_slice HO_0.out
    subst eo15
    go_wp2
    go_ret
    exact ⟨by first|rfl|(simp [errW_none,errW_some] <;> rfl)|(simp [*,errW_none,errW_some] <;> rfl),by (with_reducible repeat first|apply Kd.R_alloc|apply Kd.R_drewN|apply Kd.R_drew);exact HO_0.out,by repeat (first|(with_reducible first|exact HB.out|apply qA|apply qN|apply q1_)|exact HB.out),by repeat (first|(with_reducible first|exact HK.out|apply Kept.alloc|apply Kept.drewN|apply Kept.drew)|exact HK.out)⟩
def laws_markTrie.f (k:Nat) (l0_0:List (S62)) (a1:Int):Option (Int × (List (S62))):=(laws_markNodeS.f k l0_0 a1).bind fun bt175=>(some (bt175.1,bt175.2))
set_option maxHeartbeats 8000000 in
set_option maxRecDepth 100000 in
theorem laws_markTrie.calls (k:Nat) (P0_0_:Nat→Prop) (u9000_:Value) (l0_0:List (S62)) (a1:Int) (r1:Int) (r2:List (S62)) (w0 w:World) (hB:Below w0.heap.size w0 w) (ho0_0:Kd.R k62 62 w w0.heap.size P0_0_ u9000_ l0_0) (h:laws_markTrie.f k l0_0 a1=some (r1,r2)) :
  Calls Try.prog 8 #[.agg #[u9000_],.int .i64 a1] w fun e w'=>e=.returned (.int .i64 r1)∧Kd.R k62 62 w' w0.heap.size (fun k_=>(P0_0_ k_∨w.heap.size≤k_)) u9000_ r2∧Below w0.heap.size w0 w'∧Kept w w' (fun k_=>P0_0_ k_):=by
 have hu24:=Try.underlying24
 have HO0_0:=Zz.mk (show Kd.R k62 62 w w0.heap.size (fun k_=>(P0_0_ k_∨w.heap.size≤k_)) u9000_ l0_0 from Kd.R_mono ho0_0 (fun k_ hk=>(.inl hk)))
 have HK:=Zz.mk (Kept.refl w (fun k_=>P0_0_ k_))
 have HW0:=Zz.mk hB.size
 have HB:=Zz.mk hB
 clear hB
 have H:((laws_markNodeS.f k l0_0 a1).bind fun bt175=>(some (bt175.1,bt175.2)))=some (r1,r2):=h
 clear h
 replace H:=Option.bind_eq_some_iff.mp H
 obtain ⟨⟨t175,t176⟩,A30,H⟩:=H
 replace H:(some (t175,t176))=some (r1,r2):=H
 have A3:=Zz.mk A30
 clear A30
 simp only [Option.some.injEq,Prod.mk.injEq] at H
 obtain ⟨rfl,rfl⟩:=H
 obtain ⟨Ao4,co4,eo4⟩:=Kd.R_slice HO0_0.out
 subst eo4
 go_enter Try.func8,Try.ntmps8
 go_wp2_with (first|((with_reducible refine gate_dst (N:=2) rfl ?_);refine box_event ?hg (N:=2) ?hd (cs:=#[.slice Ao4 l0_0.length co4]) (t:=24) ?hr ?_;(case hd=>rfl);(case hg=>rfl);(case hr=>first|(go_simp;done)|(go_simp;rfl));intro gb174 hg w5 hbox hb;have n0_:=Zz.mk (Kd.R_below (by (with_reducible repeat first|apply Kd.R_alloc|apply Kd.R_drewN|apply Kd.R_drew);exact HO0_0.out) hb);have n1_:=Zz.mk (Kept.below (S:=(fun k_=>P0_0_ k_)) (by repeat (first|(with_reducible first|exact HK.out|apply Kept.alloc|apply Kept.drewN|apply Kept.drew)|exact HK.out)) hb);have n2_:=Zz.mk (qP (by repeat (first|(with_reducible first|exact HB.out|apply qA|apply qN|apply q1_)|exact HB.out)) hb);have n3_:=Zz.mk (hbox);have n4_:=Zz.mk ((by rw [hg];exact (by first|exact HK.out.1|exact (show Kept w _ (fun k_=>P0_0_ k_) from by repeat (first|(with_reducible first|exact HK.out|apply Kept.alloc|apply Kept.drewN|apply Kept.drew)|exact HK.out)).1):w.heap.size≤gb174));have n5_:=Zz.mk ((by rw [hg];exact (qZ (by repeat (first|(with_reducible first|exact HB.out|apply qA|apply qN|apply q1_)|exact HB.out))):w0.heap.size≤gb174));clear HO0_0;clear HK;clear HB;have HO0_0:=n0_;have HK:=n1_;have HB:=n2_;have BK174:=n3_;have GW174:=n4_;have GE174:=n5_;clear n0_ n1_ n2_ n3_ n4_ n5_;clear hb hbox hg;have hcz6_0:w5.cell? ⟨gb174,0,none⟩=some (.slice Ao4 l0_0.length co4):=(bC BK174.out 0).trans rfl;have hfz6_0:=bF BK174.out 0)|((with_reducible refine gate_callee (f:=21) rfl ?_);refine goesL_ (some 8) rfl rfl Try.func21 (by kernel_rfl) rfl #[.slice Ao4 l0_0.length co4,.int .i64 a1] rfl (by (try simp only [List.map_toArray,List.map_cons,List.map_nil]);first|done|rfl|(simp only [List.length_drop,List.length_take];rfl)) ?_;(with_reducible refine (laws_markNodeS.calls k (fun k_=>some k_=(.slice Ao4 l0_0.length co4:Value).ownBlock) (.slice Ao4 l0_0.length co4) l0_0 a1 t175 t176 w0 _ ?side1 ?side2 A3.out).mono ?_);(case side1=>repeat (first|(with_reducible first|exact HB.out|apply qA|apply qN|apply q1_|refine qS ?_ GE174.out)|exact HB.out));(case side2=>exact Kd.R_tight rfl HO0_0.out);rintro e w7 ⟨rfl,hy0,hb,hkp⟩;refine ⟨_,rfl,?_⟩;have n0_:=Zz.mk (Kd.R_reok rfl hy0 (fun k_ e_=>HO0_0.out.1 k_ e_));have n1_:=Zz.mk (blk_kept (by (with_reducible repeat first|apply bN|apply bD|apply bA);exact BK174.out) hkp (fun hs_=>(fun e_=>(Kd.R_ne HO0_0.out BK174.out (by decide)) e_) hs_));have n2_:=Zz.mk (Kept.then_ (S:=(fun k_=>P0_0_ k_)) (by repeat (first|(with_reducible first|exact HK.out|apply Kept.alloc|apply Kept.drewN|apply Kept.drew|refine Kept.setCell ?_ (.inr GW174.out) _)|exact HK.out)) hkp (fun k_ hs_=>(fun e_=>(HO0_0.out.1 k_ e_.symm)) hs_));have n3_:=Zz.mk (hb);clear HO0_0;clear BK174;clear HK;clear HB;have HO0_0:=n0_;have BK174:=n1_;have HK:=n2_;have HB:=n3_;clear n0_ n1_ n2_ n3_;(try clear hb);(try clear hkp);(try clear hy0)))
 go_ret
 exact ⟨by first|rfl|(simp [errW_none,errW_some] <;> rfl)|(simp [*,errW_none,errW_some] <;> rfl),by (with_reducible repeat first|apply Kd.R_alloc|apply Kd.R_drewN|apply Kd.R_drew);exact HO0_0.out,by repeat (first|(with_reducible first|exact HB.out|apply qA|apply qN|apply q1_|refine qS ?_ GE174.out)|exact HB.out),by repeat (first|(with_reducible first|exact HK.out|apply Kept.alloc|apply Kept.drewN|apply Kept.drew|refine Kept.setCell ?_ (.inr GW174.out) _)|exact HK.out)⟩
def laws_szNodeS.f (l0:List (S72)) (a1:Int):Option (Int):=if (wrap64 (a1 - (l0.length:Int)))<0 then (some (-1)) else (some (wrap64 (a1 - (l0.length:Int))))
set_option maxHeartbeats 8000000 in
set_option maxRecDepth 100000 in
theorem laws_szNodeS.calls (A0:Option Addr) (c0:Nat) (l0:List (S72)) (a1:Int) (r:Int) (w:World) (hr0:Kd.C k72 w A0 l0.length l0) (hc0:l0.length≤c0) (h:laws_szNodeS.f l0 a1=some r) :
  Calls Try.prog 23 #[.slice A0 l0.length c0,.int .i64 a1] w fun e w'=>e=.returned (.int .i64 r)∧Drawn0 w w':=by
 have HR0:=Zz.mk hr0
 have HC0:=Zz.mk hc0
 clear hr0 hc0
 have H:(if (wrap64 (a1 - (l0.length:Int)))<0 then (some (-1)) else (some (wrap64 (a1 - (l0.length:Int)))))=some r:=h
 clear h
 by_cases c3:(wrap64 (a1 - (l0.length:Int)))<0
 ·rw [if_pos c3] at H
  have c3b0:decide ((wrap64 (a1 - (l0.length:Int)))<0)=true:=decide_eq_true c3
  clear c3
  obtain rfl:=Option.some.inj H
  go_enter Try.func23,Try.ntmps23
  go_wp2
  go_ret
  exact ⟨by first|rfl|(simp;done)|(simp [*];done),by repeat (first|exact Drawn0.refl _|apply Drawn0.step)⟩
 ·rw [if_neg c3] at H
  have c3b0:decide ((wrap64 (a1 - (l0.length:Int)))<0)=false:=decide_eq_false c3
  clear c3
  obtain rfl:=Option.some.inj H
  go_enter Try.func23,Try.ntmps23
  go_wp2
  go_ret
  exact ⟨by first|rfl|(simp;done)|(simp [*];done),by repeat (first|exact Drawn0.refl _|apply Drawn0.step)⟩
def laws_szTrie.f (l0_0:List (S72)) (a1:Int):Option (Int):=(laws_szNodeS.f l0_0 a1).bind fun t178=>(if t178<0 then (some (-1)) else (some t178))
set_option maxHeartbeats 8000000 in
set_option maxRecDepth 100000 in
theorem laws_szTrie.calls (A0_0:Option Addr) (c0_0:Nat) (l0_0:List (S72)) (a1:Int) (r:Int) (w:World) (hr0_0:Kd.C k72 w A0_0 l0_0.length l0_0) (hc0_0:l0_0.length≤c0_0) (h:laws_szTrie.f l0_0 a1=some r) :
  Calls Try.prog 10 #[.agg #[.slice A0_0 l0_0.length c0_0],.int .i64 a1] w fun e w'=>e=.returned (.int .i64 r)∧Below w.heap.size w w':=by
 have hu32:=Try.underlying32
 have HR0_0:=Zz.mk hr0_0
 have HC0_0:=Zz.mk hc0_0
 clear hr0_0 hc0_0
 have HB:=Zz.mk (Below.refl w.heap.size w)
 have H:((laws_szNodeS.f l0_0 a1).bind fun t178=>(if t178<0 then (some (-1)) else (some t178)))=some r:=h
 clear h
 replace H:=Option.bind_eq_some_iff.mp H
 obtain ⟨t178,A30,H⟩:=H
 replace H:(if t178<0 then (some (-1)) else (some t178))=some r:=H
 have A3:=Zz.mk A30
 clear A30
 by_cases c4:t178<0
 ·rw [if_pos c4] at H
  have c4b0:decide (t178<0)=true:=decide_eq_true c4
  clear c4
  obtain rfl:=Option.some.inj H
  go_enter Try.func10,Try.ntmps10
  go_wp2_with (first|((with_reducible refine gate_dst (N:=2) rfl ?_);refine box_event ?hg (N:=2) ?hd (cs:=#[.slice A0_0 l0_0.length c0_0]) (t:=32) ?hr ?_;(case hd=>rfl);(case hg=>rfl);(case hr=>first|(go_simp;done)|(go_simp;rfl));intro gb177 hg w5 hbox hb;have n0_:=Zz.mk (qP (by repeat (first|(with_reducible first|exact HB.out|apply qA|apply qN|apply q1_)|exact HB.out)) hb);have n1_:=Zz.mk (hbox);have n2_:=Zz.mk ((by rw [hg];exact (qZ (by repeat (first|(with_reducible first|exact HB.out|apply qA|apply qN|apply q1_)|exact HB.out))):w.heap.size≤gb177));have n3_:=Zz.mk ((by rw [hg];exact (qZ (by repeat (first|(with_reducible first|exact HB.out|apply qA|apply qN|apply q1_)|exact HB.out))):w.heap.size≤gb177));clear HB;have HB:=n0_;have BK177:=n1_;have GW177:=n2_;have GE177:=n3_;clear n0_ n1_ n2_ n3_;clear hb hbox hg;have hcz6_0:w5.cell? ⟨gb177,0,none⟩=some (.slice A0_0 l0_0.length c0_0):=(bC BK177.out 0).trans rfl;have hfz6_0:=bF BK177.out 0)|((with_reducible refine gate_callee (f:=23) rfl ?_);refine goesL_ (some 8) rfl rfl Try.func23 (by kernel_rfl) rfl #[.slice A0_0 l0_0.length c0_0,.int .i64 a1] rfl (by (try simp only [List.map_toArray,List.map_cons,List.map_nil]);first|done|rfl|(simp only [List.length_drop,List.length_take];rfl)) ?_;(with_reducible refine (laws_szNodeS.calls _ _ l0_0 a1 t178 _ ?side1 ?side2 A3.out).mono ?_);(case side1=>repeat (first|exact (Kd.C_below HR0_0.out HB.out)|(with_reducible refine Kd.C_alloc ?_ _)|(with_reducible refine Kd.C_drewN ?_ _)|(with_reducible refine Kd.C_drew ?_)));(case side2=>exact HC0_0.out);rintro e w' ⟨rfl,⟨nd,rfl⟩⟩;refine ⟨_,rfl,?_⟩))
  go_ret
  exact ⟨by first|rfl|(simp [errW_none,errW_some] <;> rfl)|(simp [*,errW_none,errW_some] <;> rfl),by repeat (first|(with_reducible first|exact HB.out|apply qA|apply qN|apply q1_|refine qS ?_ GE177.out)|exact HB.out)⟩
 ·rw [if_neg c4] at H
  have c4b0:decide (t178<0)=false:=decide_eq_false c4
  clear c4
  obtain rfl:=Option.some.inj H
  go_enter Try.func10,Try.ntmps10
  go_wp2_with (first|((with_reducible refine gate_dst (N:=2) rfl ?_);refine box_event ?hg (N:=2) ?hd (cs:=#[.slice A0_0 l0_0.length c0_0]) (t:=32) ?hr ?_;(case hd=>rfl);(case hg=>rfl);(case hr=>first|(go_simp;done)|(go_simp;rfl));intro gb177 hg w7 hbox hb;have n0_:=Zz.mk (qP (by repeat (first|(with_reducible first|exact HB.out|apply qA|apply qN|apply q1_)|exact HB.out)) hb);have n1_:=Zz.mk (hbox);have n2_:=Zz.mk ((by rw [hg];exact (qZ (by repeat (first|(with_reducible first|exact HB.out|apply qA|apply qN|apply q1_)|exact HB.out))):w.heap.size≤gb177));have n3_:=Zz.mk ((by rw [hg];exact (qZ (by repeat (first|(with_reducible first|exact HB.out|apply qA|apply qN|apply q1_)|exact HB.out))):w.heap.size≤gb177));clear HB;have HB:=n0_;have BK177:=n1_;have GW177:=n2_;have GE177:=n3_;clear n0_ n1_ n2_ n3_;clear hb hbox hg;have hcz8_0:w7.cell? ⟨gb177,0,none⟩=some (.slice A0_0 l0_0.length c0_0):=(bC BK177.out 0).trans rfl;have hfz8_0:=bF BK177.out 0)|((with_reducible refine gate_callee (f:=23) rfl ?_);refine goesL_ (some 8) rfl rfl Try.func23 (by kernel_rfl) rfl #[.slice A0_0 l0_0.length c0_0,.int .i64 a1] rfl (by (try simp only [List.map_toArray,List.map_cons,List.map_nil]);first|done|rfl|(simp only [List.length_drop,List.length_take];rfl)) ?_;(with_reducible refine (laws_szNodeS.calls _ _ l0_0 a1 t178 _ ?side1 ?side2 A3.out).mono ?_);(case side1=>repeat (first|exact (Kd.C_below HR0_0.out HB.out)|(with_reducible refine Kd.C_alloc ?_ _)|(with_reducible refine Kd.C_drewN ?_ _)|(with_reducible refine Kd.C_drew ?_)));(case side2=>exact HC0_0.out);rintro e w' ⟨rfl,⟨nd,rfl⟩⟩;refine ⟨_,rfl,?_⟩))
  go_ret
  exact ⟨by first|rfl|(simp [errW_none,errW_some] <;> rfl)|(simp [*,errW_none,errW_some] <;> rfl),by repeat (first|(with_reducible first|exact HB.out|apply qA|apply qN|apply q1_|refine qS ?_ GE177.out)|exact HB.out)⟩
mutual
def spec_l2Word.l0:Nat→ByteArray→Int→Option (Bool)
 | 0,_,_=>none
 | k+1,x0,x3=>if x3<(x0.size:Int) then (spec_l2Word.j1 k x0 x3 (decide (x3≤12))) else (spec_l2Word.j1 k x0 x3 false)
def spec_l2Word.j1:Nat→ByteArray→Int→Bool→Option (Bool)
 | 0,_,_,_=>none
 | k+1,x0,x3,x11=>if x11=true then (if 0≤x3 then (if x3<(x0.size:Int) then (if (bt x0 x3)<97 then (some false) else (if (bt x0 x3) > 122 then (some false) else (spec_l2Word.l0 k x0 (wrap64 (x3+1))))) else (none)) else (none)) else (some (decide ((x0.size:Int)≤12)))
end
def spec_l2Word.f (k:Nat) (a0:ByteArray):Option (Bool):=spec_l2Word.l0 k a0 0
set_option maxHeartbeats 8000000 in
set_option maxRecDepth 100000 in
theorem spec_l2Word.calls (k:Nat) (a0:ByteArray) (r:Bool) (w:World) (h:spec_l2Word.f k a0=some r) :
  Calls Try.prog 56 #[.string a0] w fun e w'=>e=.returned (.bool r)∧Drawn0 w w':=by
 have H:(spec_l2Word.l0 k a0 0)=some r:=h
 clear h
 have H':=Zz.mk H
 clear H
 go_enter Try.func56,Try.ntmps56
 go_wp2
 go_loopg [3] k (fun kq v3 w'=>∃ (x3_1:Int),v3=.int .i64 x3_1∧Zz (spec_l2Word.l0 kq a0 x3_1=some r)∧Zz (kq≤k)∧Drawn0 w w')
 case atStart=>exact ⟨(0),(by first|rfl|(simp;done)|(simp [*];done)),H',⟨Nat.le_refl _⟩,by repeat (first|exact Drawn0.refl _|apply Drawn0.step)⟩
 case round =>
  clear H'
  obtain ⟨x3_1,rfl,HA,HK1,⟨m1,rfl⟩⟩:=hrel
  cases gk with
  | zero=>exact absurd HA.out (by simp [spec_l2Word.l0])
  | succ k1 =>
   have H:=HA.out
   clear HA
   simp only [spec_l2Word.l0] at H
   have HC2:=Zz.mk H
   clear H
   go_upto_region 2 with (fail)
   go_cut [11] (fun v11 wc=>∃ (kq:Nat) (x11_1:Bool),v11=.bool x11_1∧Zz (spec_l2Word.j1 kq a0 x3_1 x11_1=some r)∧Zz (kq≤k1)∧Drawn0 w wc)
   case first =>
    have H:=HC2.out
    clear HC2
    by_cases c3:x3_1<(a0.size:Int)
    ·rw [if_pos c3] at H
     have c3b0:decide (x3_1<(a0.size:Int))=true:=decide_eq_true c3
     clear c3
     (first|rw [c3b0]|(simp only [i64_w,i32_w];rw [c3b0])|skip)
     have H':=Zz.mk H
     clear H
     go_wp2
     go_meet
     case rel=>exact ⟨_,(decide (x3_1≤12)),(by first|rfl|(simp;done)|(simp [*];done)),H',⟨by have:=HK1.out;first|omega|exact Nat.le_refl _⟩,by repeat (first|exact Drawn0.refl _|apply Drawn0.step)⟩
    ·rw [if_neg c3] at H
     have c3b0:decide (x3_1<(a0.size:Int))=false:=decide_eq_false c3
     clear c3
     (first|rw [c3b0]|(simp only [i64_w,i32_w];rw [c3b0])|skip)
     have H':=Zz.mk H
     clear H
     go_wp2
     go_meet
     case rel=>exact ⟨_,(false),(by first|rfl|(simp;done)|(simp [*];done)),H',⟨by have:=HK1.out;first|omega|exact Nat.le_refl _⟩,by repeat (first|exact Drawn0.refl _|apply Drawn0.step)⟩
   case rest =>
    clear HC2
    try clear p2
    try clear c3
    try clear c3b0
    obtain ⟨kq,x11_1,rfl,HA,HJ1,⟨mc1,rfl⟩⟩:=hcut
    cases kq with
    | zero=>exact absurd HA.out (by simp [spec_l2Word.j1])
    | succ kj1 =>
     have H:=HA.out
     clear HA
     simp only [spec_l2Word.j1] at H
     by_cases c4:x11_1=true
     ·subst c4
      have H1:(if 0≤x3_1 then (if x3_1<(a0.size:Int) then (if (bt a0 x3_1)<97 then (some false) else (if (bt a0 x3_1) > 122 then (some false) else (spec_l2Word.l0 kj1 a0 (wrap64 (x3_1+1))))) else (none)) else (none))=some r:=by rw [if_pos rfl] at H;exact H
      clear H
      have H:=H1
      clear H1
      by_cases c5:0≤x3_1
      ·rw [if_pos c5] at H
       have c5b0:decide (0≤x3_1)=true:=decide_eq_true c5
       clear c5
       by_cases c6:x3_1<(a0.size:Int)
       ·rw [if_pos c6] at H
        have c6b0:decide (x3_1<(a0.size:Int))=true:=decide_eq_true c6
        clear c6
        by_cases c8:(bt a0 x3_1)<97
        ·rw [if_pos c8] at H
         have c8b0:decide ((bt a0 x3_1)<97)=true:=decide_eq_true c8
         clear c8
         obtain rfl:=Option.some.inj H
         have p7:0≤(x3_1:Int):=of_decide_eq_true (by first|(with_reducible assumption)|assumption)
         have q7:x3_1<(a0.size:Int):=of_decide_eq_true (by first|(with_reducible assumption)|assumption)
         have hx7:=bt_at a0 x3_1
         replace p7:=eq_true p7
         replace q7:=eq_true q7
         go_wp2
         go_ret
         exact ⟨by first|rfl|(simp;done)|(simp [*];done),by repeat (first|exact Drawn0.refl _|apply Drawn0.step)⟩
        ·rw [if_neg c8] at H
         have c8b0:decide ((bt a0 x3_1)<97)=false:=decide_eq_false c8
         clear c8
         by_cases c10:(bt a0 x3_1) > 122
         ·rw [if_pos c10] at H
          have c10b0:decide (122<(bt a0 x3_1))=true:=decide_eq_true c10
          clear c10
          obtain rfl:=Option.some.inj H
          have p7:0≤(x3_1:Int):=of_decide_eq_true (by first|(with_reducible assumption)|assumption)
          have q7:x3_1<(a0.size:Int):=of_decide_eq_true (by first|(with_reducible assumption)|assumption)
          have hx7:=bt_at a0 x3_1
          replace p7:=eq_true p7
          replace q7:=eq_true q7
          have p9:0≤(x3_1:Int):=of_decide_eq_true (by first|(with_reducible assumption)|assumption)
          have q9:x3_1<(a0.size:Int):=of_decide_eq_true (by first|(with_reducible assumption)|assumption)
          have hx9:=bt_at a0 x3_1
          replace p9:=eq_true p9
          replace q9:=eq_true q9
          go_wp2
          go_ret
          exact ⟨by first|rfl|(simp;done)|(simp [*];done),by repeat (first|exact Drawn0.refl _|apply Drawn0.step)⟩
         ·rw [if_neg c10] at H
          have c10b0:decide (122<(bt a0 x3_1))=false:=decide_eq_false c10
          clear c10
          have H':=Zz.mk H
          clear H
          have p7:0≤(x3_1:Int):=of_decide_eq_true (by first|(with_reducible assumption)|assumption)
          have q7:x3_1<(a0.size:Int):=of_decide_eq_true (by first|(with_reducible assumption)|assumption)
          have hx7:=bt_at a0 x3_1
          replace p7:=eq_true p7
          replace q7:=eq_true q7
          have p9:0≤(x3_1:Int):=of_decide_eq_true (by first|(with_reducible assumption)|assumption)
          have q9:x3_1<(a0.size:Int):=of_decide_eq_true (by first|(with_reducible assumption)|assumption)
          have hx9:=bt_at a0 x3_1
          replace p9:=eq_true p9
          replace q9:=eq_true q9
          go_wp2
          go_roundg kj1
          case measure=>have:=HK1.out;have:=HJ1.out;omega
          case rel=>exact ⟨(wrap64 (x3_1+1)),(by first|rfl|(simp;done)|(simp [*];done)),H',⟨by have:=HK1.out;have:=HJ1.out;omega⟩,by repeat (first|exact Drawn0.refl _|apply Drawn0.step)⟩
       ·rw [if_neg c6] at H
        exact absurd H (by simp)
      ·rw [if_neg c5] at H
       exact absurd H (by simp)
     ·replace c4:=Bool.eq_false_iff.mpr c4
      subst c4
      have H1:(some (decide ((a0.size:Int)≤12)))=some r:=by rw [if_neg (show ¬ (false=true) by decide)] at H;exact H
      clear H
      have H:=H1
      clear H1
      obtain rfl:=Option.some.inj H
      go_wp2
      go_ret
      exact ⟨by first|rfl|(simp;done)|(simp [*];done),by repeat (first|exact Drawn0.refl _|apply Drawn0.step)⟩
end Go.Proofs.Ytghkbgmbbcaecaa.Q
namespace Go.Proofs.Ytghkbgmbbcaecaa.Q
open Go.RowKit Go.Proofs.YtghkbgmbbcaecaaW.PrintWords Go.Proofs.YtghkbgmbbcaecaaW.PrintLast Go.Proofs.YtghkbgmbbcaecaaW.PrintMore
attribute [local go_sem] run_field_23 run_field_24 run_field_31 run_field_32 run_field_35 run_field_36 isSome_setCell max2_int min2_int max_two min_two max_three min_three max_four min_four   -- for this text's walks alone
set_option linter.unusedVariables false
set_option linter.unusedSimpArgs false
mutual
def spec_l2Before.l0:Nat→ByteArray→ByteArray→Int→Option (Bool)
  | 0,_,_,_=>none
  | k+1,x0,x1,x5=>if x5<(x0.size:Int) then (spec_l2Before.j1 k x0 x1 x5 (decide (x5<(x1.size:Int)))) else (spec_l2Before.j1 k x0 x1 x5 false)
def spec_l2Before.j1:Nat→ByteArray→ByteArray→Int→Bool→Option (Bool)
  | 0,_,_,_,_=>none
  | k+1,x0,x1,x5,x15=>if x15=true then (if 0≤x5 then (if x5<(x0.size:Int) then (if x5<(x1.size:Int) then (if (bt x0 x5)=(bt x1 x5) then (spec_l2Before.l0 k x0 x1 (wrap64 (x5+1))) else (some (decide ((bt x0 x5)<(bt x1 x5))))) else (none)) else (none)) else (none)) else (some (decide ((x0.size:Int)<(x1.size:Int))))
end
def spec_l2Before.f (k:Nat) (a0:ByteArray) (a1:ByteArray):Option (Bool):=spec_l2Before.l0 k a0 a1 0
set_option maxHeartbeats 8000000 in
set_option maxRecDepth 100000 in
theorem spec_l2Before.calls (k:Nat) (a0:ByteArray) (a1:ByteArray) (r:Bool) (w:World) (h:spec_l2Before.f k a0 a1=some r) :
  Calls Try.prog 68 #[.string a0,.string a1] w fun e w'=>e=.returned (.bool r)∧Drawn0 w w':=by
 have H:(spec_l2Before.l0 k a0 a1 0)=some r:=h
 clear h
 have H':=Zz.mk H
 clear H
 go_enter Try.func68,Try.ntmps68
 go_wp2
 repeat (go_quiet (fail);try go_wp2)
 go_loopg [5] k (fun kq v5 w'=>∃ (x5_1:Int),v5=.int .i64 x5_1∧Zz (spec_l2Before.l0 kq a0 a1 x5_1=some r)∧Zz (kq≤k)∧Drawn0 w w')
 case atStart=>exact ⟨(0),(by first|rfl|(simp;done)|(simp [*];done)),H',⟨Nat.le_refl _⟩,by repeat (first|exact Drawn0.refl _|apply Drawn0.step)⟩
 case round =>
  clear H'
  try clear p2
  obtain ⟨x5_1,rfl,HA,HK1,⟨m1,rfl⟩⟩:=hrel
  cases gk with
  | zero=>exact absurd HA.out (by simp [spec_l2Before.l0])
  | succ k1 =>
   have H:=HA.out
   clear HA
   simp only [spec_l2Before.l0] at H
   have HC3:=Zz.mk H
   clear H
   go_upto_region 2 with (fail)
   repeat (go_quiet (fail);go_upto_region 2 with (fail))
   go_cut [15] (fun v15 wc=>∃ (kq:Nat) (x15_2:Bool),v15=.bool x15_2∧Zz (spec_l2Before.j1 kq a0 a1 x5_1 x15_2=some r)∧Zz (kq≤k1)∧Drawn0 w wc)
   case first =>
    have H:=HC3.out
    clear HC3
    by_cases c4:x5_1<(a0.size:Int)
    ·rw [if_pos c4] at H
     have c4b0:decide (x5_1<(a0.size:Int))=true:=decide_eq_true c4
     clear c4
     (first|rw [c4b0]|(simp only [i64_w,i32_w];rw [c4b0])|skip)
     have H':=Zz.mk H
     clear H
     go_wp2
     repeat (go_quiet (fail);try go_wp2)
     go_meet
     case rel=>exact ⟨_,(decide (x5_1<(a1.size:Int))),(by first|rfl|(simp;done)|(simp [*];done)),H',⟨by have:=HK1.out;first|omega|exact Nat.le_refl _⟩,by repeat (first|exact Drawn0.refl _|apply Drawn0.step)⟩
    ·rw [if_neg c4] at H
     have c4b0:decide (x5_1<(a0.size:Int))=false:=decide_eq_false c4
     clear c4
     (first|rw [c4b0]|(simp only [i64_w,i32_w];rw [c4b0])|skip)
     have H':=Zz.mk H
     clear H
     go_wp2
     repeat (go_quiet (fail);try go_wp2)
     go_meet
     case rel=>exact ⟨_,(false),(by first|rfl|(simp;done)|(simp [*];done)),H',⟨by have:=HK1.out;first|omega|exact Nat.le_refl _⟩,by repeat (first|exact Drawn0.refl _|apply Drawn0.step)⟩
   case rest =>
    clear HC3
    try clear p2
    try clear c4
    try clear c4b0
    try clear p2
    obtain ⟨kq,x15_2,rfl,HA,HJ2,⟨mc2,rfl⟩⟩:=hcut
    cases kq with
    | zero=>exact absurd HA.out (by simp [spec_l2Before.j1])
    | succ kj2 =>
     have H:=HA.out
     clear HA
     simp only [spec_l2Before.j1] at H
     by_cases c5:x15_2=true
     ·subst c5
      have H1:(if 0≤x5_1 then (if x5_1<(a0.size:Int) then (if x5_1<(a1.size:Int) then (if (bt a0 x5_1)=(bt a1 x5_1) then (spec_l2Before.l0 kj2 a0 a1 (wrap64 (x5_1+1))) else (some (decide ((bt a0 x5_1)<(bt a1 x5_1))))) else (none)) else (none)) else (none))=some r:=by rw [if_pos rfl] at H;exact H
      clear H
      have H:=H1
      clear H1
      by_cases c6:0≤x5_1
      ·rw [if_pos c6] at H
       have c6b0:decide (0≤x5_1)=true:=decide_eq_true c6
       clear c6
       by_cases c7:x5_1<(a0.size:Int)
       ·rw [if_pos c7] at H
        have c7b0:decide (x5_1<(a0.size:Int))=true:=decide_eq_true c7
        clear c7
        by_cases c9:x5_1<(a1.size:Int)
        ·rw [if_pos c9] at H
         have c9b0:decide (x5_1<(a1.size:Int))=true:=decide_eq_true c9
         clear c9
         by_cases c11:(bt a0 x5_1)=(bt a1 x5_1)
         ·rw [if_pos c11] at H
          have c11b0:((bt a0 x5_1) == (bt a1 x5_1))=true:=beq_iff_eq.mpr c11
          have c11b1:((bt a0 x5_1) != (bt a1 x5_1))=false:=bne_eq_false_iff_eq.mpr c11
          clear c11
          have H':=Zz.mk H
          clear H
          have p8:0≤(x5_1:Int):=of_decide_eq_true (by first|(with_reducible assumption)|assumption)
          have q8:x5_1<(a0.size:Int):=of_decide_eq_true (by first|(with_reducible assumption)|assumption)
          have hx8:=bt_at a0 x5_1
          replace p8:=eq_true p8
          replace q8:=eq_true q8
          have p10:0≤(x5_1:Int):=of_decide_eq_true (by first|(with_reducible assumption)|assumption)
          have q10:x5_1<(a1.size:Int):=of_decide_eq_true (by first|(with_reducible assumption)|assumption)
          have hx10:=bt_at a1 x5_1
          replace p10:=eq_true p10
          replace q10:=eq_true q10
          go_wp2
          repeat (go_quiet (fail);try go_wp2)
          go_roundg kj2
          case measure=>have:=HK1.out;have:=HJ2.out;omega
          case rel=>exact ⟨(wrap64 (x5_1+1)),(by first|rfl|(simp;done)|(simp [*];done)),H',⟨by have:=HK1.out;have:=HJ2.out;omega⟩,by repeat (first|exact Drawn0.refl _|apply Drawn0.step)⟩
         ·rw [if_neg c11] at H
          have c11b0:((bt a0 x5_1) == (bt a1 x5_1))=false:=beq_eq_false_iff_ne.mpr c11
          have c11b1:((bt a0 x5_1) != (bt a1 x5_1))=true:=bne_iff_ne.mpr c11
          obtain rfl:=Option.some.inj H
          have p8:0≤(x5_1:Int):=of_decide_eq_true (by first|(with_reducible assumption)|assumption)
          have q8:x5_1<(a0.size:Int):=of_decide_eq_true (by first|(with_reducible assumption)|assumption)
          have hx8:=bt_at a0 x5_1
          replace p8:=eq_true p8
          replace q8:=eq_true q8
          have p10:0≤(x5_1:Int):=of_decide_eq_true (by first|(with_reducible assumption)|assumption)
          have q10:x5_1<(a1.size:Int):=of_decide_eq_true (by first|(with_reducible assumption)|assumption)
          have hx10:=bt_at a1 x5_1
          replace p10:=eq_true p10
          replace q10:=eq_true q10
          have p12:0≤(x5_1:Int):=of_decide_eq_true (by first|(with_reducible assumption)|assumption)
          have q12:x5_1<(a0.size:Int):=of_decide_eq_true (by first|(with_reducible assumption)|assumption)
          have hx12:=bt_at a0 x5_1
          replace p12:=eq_true p12
          replace q12:=eq_true q12
          have p13:0≤(x5_1:Int):=of_decide_eq_true (by first|(with_reducible assumption)|assumption)
          have q13:x5_1<(a1.size:Int):=of_decide_eq_true (by first|(with_reducible assumption)|assumption)
          have hx13:=bt_at a1 x5_1
          replace p13:=eq_true p13
          replace q13:=eq_true q13
          go_wp2
          repeat (go_quiet (fail);try go_wp2)
          go_ret
          exact ⟨by first|rfl|(simp;done)|(simp [*];done),by repeat (first|exact Drawn0.refl _|apply Drawn0.step)⟩
        ·rw [if_neg c9] at H
         exact absurd H (by simp)
       ·rw [if_neg c7] at H
        exact absurd H (by simp)
      ·rw [if_neg c6] at H
       exact absurd H (by simp)
     ·replace c5:=Bool.eq_false_iff.mpr c5
      subst c5
      have H1:(some (decide ((a0.size:Int)<(a1.size:Int))))=some r:=by rw [if_neg (show ¬ (false=true) by decide)] at H;exact H
      clear H
      have H:=H1
      clear H1
      obtain rfl:=Option.some.inj H
      go_wp2
      repeat (go_quiet (fail);try go_wp2)
      go_ret
      exact ⟨by first|rfl|(simp;done)|(simp [*];done),by repeat (first|exact Drawn0.refl _|apply Drawn0.step)⟩
def spec_l2Own.f (l0:List ByteArray):Option (List ByteArray):=(some (([]:List ByteArray):List ByteArray)).bind fun y179=>(if y179.length+l0.length<8796093022208 then (some (y179 ++ l0)) else (none))
set_option maxHeartbeats 8000000 in
set_option maxRecDepth 100000 in
theorem spec_l2Own.calls (A0:Option Addr) (c0:Nat) (l0:List ByteArray) (r:List ByteArray) (w:World) (hr0:Kd.C Kd.string w A0 l0.length l0) (hc0:l0.length≤c0) (h:spec_l2Own.f l0=some r) :
  Calls Try.prog 69 #[.slice A0 l0.length c0] w fun e w'=>∃ v0_:Value,e=.returned (v0_)∧Kd.R Kd.string 9 w' w.heap.size (fun _=>True) v0_ r∧Below w.heap.size w w':=by
 have HR0:=Zz.mk hr0
 have HC0:=Zz.mk hc0
 clear hr0 hc0
 have HB:=Zz.mk (Below.refl w.heap.size w)
 have H:((some (([]:List ByteArray):List ByteArray)).bind fun y179=>(if y179.length+l0.length<8796093022208 then (some (y179 ++ l0)) else (none)))=some r:=h
 clear h
 obtain ⟨y179,hy179⟩:∃ y_:List ByteArray,y_=(([]:List ByteArray)):=⟨_,rfl⟩
 replace H:(if y179.length+l0.length<8796093022208 then (some (y179 ++ l0)) else (none))=some r:=by first|(rw [hy179];with_reducible exact H)|(have H2_:=(Option.bind_some _ _).symm.trans H;rw [hy179];with_reducible exact H2_)|(have H2_:=(Option.bind_some _ _).symm.trans H;with_reducible exact H2_)|with_reducible exact H|(rw [hy179];exact H)|exact H
 have Ny179:=Zz.mk hy179
 clear hy179
 by_cases c2:y179.length+l0.length<8796093022208
 ·rw [if_pos c2] at H
  have LMc2:=Zz.mk c2
  clear c2
  obtain ⟨y182,hy182⟩:∃ y_:List ByteArray,y_=(y179 ++ l0):=⟨_,rfl⟩
  replace H:(some y182)=some r:=by first|(rw [hy182];with_reducible exact H)|(have H2_:=(Option.bind_some _ _).symm.trans H;rw [hy182];with_reducible exact H2_)|(have H2_:=(Option.bind_some _ _).symm.trans H;with_reducible exact H2_)|with_reducible exact H|(rw [hy182];exact H)|exact H
  have Ny182:=Zz.mk hy182
  clear hy182
  obtain rfl:=Option.some.inj H
  go_enter Try.func69,Try.ntmps69
  go_wp2_with (first|((with_reducible refine gate_dst (N:=3) rfl ?_);refine Kd.R_lit Kd.string _ 9 ?hg (N:=3) ?hd (xs:=([]:List ByteArray)) (inner:=[]) (ok:=fun _=>True) (okp:=fun _=>True) ?hr ?hp (fun _ hk=>hk) trivial (Below.refl _ _) (Nat.le_refl _) (by simp) ?_;(case hd=>rfl);(case hg=>rfl);(case hr=>first|(go_simp;done)|(go_simp;rfl));(case hp=>exact (Reps.none _ _));intro v180 w3 ho4 hb hg_ hnew_;clear hg_ hnew_;(first|rw [← Ny179.out] at ho4|(simp only [Int.reduceToNat] at ho4;rw [← Ny179.out] at ho4));have n0_:=Zz.mk (Kd.R_lower ho4 (qZ (by repeat (first|(with_reducible first|exact HB.out|apply qA|apply qN|apply q1_)|exact HB.out))));have n1_:=Zz.mk (qP (by repeat (first|(with_reducible first|exact HB.out|apply qA|apply qN|apply q1_)|exact HB.out)) hb);clear HB;have HO181:=n0_;have HB:=n1_;clear n0_ n1_;clear hb ho4)|((with_reducible refine gate_builtin (b:=.append) (xs:=#[.tmp 3,.tmp 4]) rfl ?_);at_builtin;refine Kd.R_append_rows Kd.string (w0:=w) w.heap.size rfl (.tmp 3) (.tmp 4) 44 9 (.string ⟨#[]⟩) 16 rfl Try.underlying44 info9 rfl (by decide) (by omega) v180 y179 l0 _ _ _ (fun _=>True) (fun _=>False) rfl rfl ?aO ?aR (fun _ _ h=>h) (fun _ h=>h.elim) ?aF ?aB ?aS ?aL ?_;(case aR=>repeat (first|exact (Kd.C_below HR0.out HB.out)|(with_reducible refine Kd.C_alloc ?_ _)|(with_reducible refine Kd.C_drewN ?_ _)|(with_reducible refine Kd.C_drew ?_)));(case aB=>exact (by repeat (first|(with_reducible first|exact HB.out|apply qA|apply qN|apply q1_)|exact HB.out)));(case aF=>exact (fun _ _=>trivial));(case aO=>exact (by (with_reducible repeat first|apply Kd.R_alloc|apply Kd.R_drewN|apply Kd.R_drew);exact HO181.out));(case aS=>exact (qZ (by repeat (first|(with_reducible first|exact HB.out|apply qA|apply qN|apply q1_)|exact HB.out))));(case aL=>have:=LMc2.out;omega);intro v183 w5 ho hb hg hat;rw [← Ny182.out] at ho;have n0_:=Zz.mk (hb);have n1_:=Zz.mk (ho);clear HB;clear HO181;have HB:=n0_;have HO184:=n1_;clear n0_ n1_;clear ho hb hg hat))
  go_ret
  exact ⟨_,by first|rfl|(simp [errW_none,errW_some] <;> rfl)|(simp [*,errW_none,errW_some] <;> rfl),by (with_reducible repeat first|apply Kd.R_alloc|apply Kd.R_drewN|apply Kd.R_drew);exact HO184.out,by repeat (first|(with_reducible first|exact HB.out|apply qA|apply qN|apply q1_)|exact HB.out)⟩
 ·rw [if_neg c2] at H
  exact absurd H (by simp)
end Go.Proofs.Ytghkbgmbbcaecaa.Q
namespace Go.Proofs.Ytghkbgmbbcaecaa.Q
open Go.RowKit Go.Proofs.YtghkbgmbbcaecaaW.PrintWords Go.Proofs.YtghkbgmbbcaecaaW.PrintLast Go.Proofs.YtghkbgmbbcaecaaW.PrintMore
attribute [local go_sem] run_field_23 run_field_24 run_field_31 run_field_32 run_field_35 run_field_36 isSome_setCell max2_int min2_int max_two min_two max_three min_three max_four min_four   -- for this text's walks alone
set_option linter.unusedVariables false
set_option linter.unusedSimpArgs false
def spec_l2Put.l0:Nat→List ByteArray→ByteArray→Int→Option (List ByteArray)
  | 0,_,_,_=>none
  | k+1,x0,x1,x5=>if x5<(x0.length:Int) then (if 0≤x5 then ((spec_l2Before.f k (rdOf ByteArray.empty x0 x5) x1).bind fun t186=>(if t186=true then (spec_l2Put.l0 k x0 x1 (wrap64 (x5+1))) else (if (rdOf ByteArray.empty x0 x5).toList=x1.toList then (some x0) else (if x5≤(x0.length:Int) then ((spec_l2Own.f (x0.take (x5:Int).toNat)).bind fun t193=>((some (([x1]:List ByteArray):List ByteArray)).bind fun y196=>(if t193.length+y196.length<8796093022208 then ((some (t193 ++ y196:List ByteArray)).bind fun y199=>((some (x0.drop (x5:Int).toNat:List ByteArray)).bind fun y202=>(if y199.length+y202.length<8796093022208 then (some (y199 ++ y202)) else (none)))) else (none)))) else (none))))) else (none)) else (if 0≤x5 then (if x5≤(x0.length:Int) then ((spec_l2Own.f (x0.take (x5:Int).toNat)).bind fun t215=>((some (([x1]:List ByteArray):List ByteArray)).bind fun y218=>(if t215.length+y218.length<8796093022208 then ((some (t215 ++ y218:List ByteArray)).bind fun y221=>((some (x0.drop (x5:Int).toNat:List ByteArray)).bind fun y224=>(if y221.length+y224.length<8796093022208 then (some (y221 ++ y224)) else (none)))) else (none)))) else (none)) else (none))
def spec_l2Put.f (k:Nat) (l0:List ByteArray) (a1:ByteArray):Option (List ByteArray):=spec_l2Put.l0 k l0 a1 0
def spec_l2Put.T6:Bool × List (List Nat × List Nat):=(true,[([],[]),([],[]),([0,1],[0,1]),([2],[2]),([],[]),([4],[4]),([3,5,3],[3,5]),([],[]),([],[]),([7,8],[7,8]),([6,9,6],[6,9]),([10,10,0,1,2,3,4,5,6,7,8,9,10],[10])])
def spec_l2Put.B6:List Nat:=[0,0,3,7,0,16,63,0,0,384,1023,2047]
theorem spec_l2Put.tab6:rtab .any (opsOf Try.f57 6)=spec_l2Put.T6:=by kernel_rfl
theorem spec_l2Put.bits6:waitsOk spec_l2Put.T6.2 spec_l2Put.B6=true:=by kernel_rfl
set_option maxHeartbeats 8000000 in
set_option maxRecDepth 100000 in
theorem spec_l2Put.calls (k:Nat) (P0_:Nat→Prop) (A0:Option Addr) (c0:Nat) (l0:List ByteArray) (a1:ByteArray) (r:List ByteArray) (w:World) (hs0:Kd.V Kd.string 9 w w.heap.size (fun k_=>P0_ k_) (.slice A0 l0.length c0) l0) (h:spec_l2Put.f k l0 a1=some r) :
  Calls Try.prog 57 #[.slice A0 l0.length c0,.string a1] w fun e w'=>∃ v0_:Value,e=.returned (v0_)∧Kd.V Kd.string 9 w' w.heap.size (fun k_=>(P0_ k_∨w.heap.size≤k_)) v0_ r∧Below w.heap.size w w':=by
 have HO0:=Zz.mk (show Kd.V Kd.string 9 w w.heap.size (fun k_=>(P0_ k_∨w.heap.size≤k_)) (.slice A0 l0.length c0) l0 from Kd.V_mono hs0 (fun k_ hk=>.inl hk))
 have HB:=Zz.mk (Below.refl w.heap.size w)
 have H:(spec_l2Put.l0 k l0 a1 0)=some r:=h
 clear h
 have H':=Zz.mk H
 clear H
 go_enter Try.func57,Try.ntmps57
 go_wp2
 go_loopg [5] k (fun kq v5 w'=>∃ (x5_1:Int),v5=.int .i64 x5_1∧Zz (spec_l2Put.l0 kq l0 a1 x5_1=some r)∧Zz (kq≤k)∧Zz (Kd.V Kd.string 9 w' w.heap.size (fun k_=>(P0_ k_∨w.heap.size≤k_)) (.slice A0 l0.length c0) l0)∧Zz (Below w.heap.size w w'))
 case atStart=>exact ⟨(0),(by first|rfl|(simp;done)|(simp [*];done)),H',⟨Nat.le_refl _⟩,⟨by (with_reducible repeat (first|apply Kd.V_alloc|apply Kd.V_drewN|apply Kd.V_drew));exact HO0.out⟩,⟨by repeat (first|(with_reducible first|exact HB.out|apply qA|apply qN|apply q1_)|exact HB.out)⟩⟩
 case round =>
  clear H'
  try clear p2
  obtain ⟨x5_1,rfl,HA,HK1,HO_0,HB⟩:=hrel
  cases gk with
  | zero=>exact absurd HA.out (by simp [spec_l2Put.l0])
  | succ k1 =>
   have H:=HA.out
   clear HA
   simp only [spec_l2Put.l0] at H
   by_cases c3:x5_1<(l0.length:Int)
   ·rw [if_pos c3] at H
    have c3b0:decide (x5_1<(l0.length:Int))=true:=decide_eq_true c3
    clear c3
    by_cases c4:0≤x5_1
    ·rw [if_pos c4] at H
     have c4b0:decide (0≤x5_1)=true:=decide_eq_true c4
     clear c4
     replace H:=Option.bind_eq_some_iff.mp H
     obtain ⟨t186,A50,H⟩:=H
     replace H:(if t186=true then (spec_l2Put.l0 k1 l0 a1 (wrap64 (x5_1+1))) else (if (rdOf ByteArray.empty l0 x5_1).toList=a1.toList then (some l0) else (if x5_1≤(l0.length:Int) then ((spec_l2Own.f (l0.take (x5_1:Int).toNat)).bind fun t193=>((some (([a1]:List ByteArray):List ByteArray)).bind fun y196=>(if t193.length+y196.length<8796093022208 then ((some (t193 ++ y196:List ByteArray)).bind fun y199=>((some (l0.drop (x5_1:Int).toNat:List ByteArray)).bind fun y202=>(if y199.length+y202.length<8796093022208 then (some (y199 ++ y202)) else (none)))) else (none)))) else (none))))=some r:=H
     have A5:=Zz.mk A50
     clear A50
     by_cases c6:t186=true
     ·subst c6
      have H1:(spec_l2Put.l0 k1 l0 a1 (wrap64 (x5_1+1)))=some r:=by rw [if_pos rfl] at H;exact H
      clear H
      have H:=H1
      clear H1
      have H':=Zz.mk H
      clear H
      have p185:0≤(x5_1:Int):=of_decide_eq_true (by first|(with_reducible assumption)|assumption)
      have q185:x5_1<(l0.length:Int):=of_decide_eq_true (by first|(with_reducible assumption)|assumption)
      obtain ⟨ad185,e185,hx185_0⟩:=Kd.at_string (Kd.V_reads' HO_0.out).2.2 x5_1 p185 q185
      cases e185
      replace p185:=eq_true p185
      replace q185:=eq_true q185
      go_wp2_with (first|(go_at_call 68;(with_reducible refine (spec_l2Before.calls k1 (rdOf ByteArray.empty l0 x5_1) a1 true _ A5.out).mono ?_);rintro e w' ⟨rfl,⟨nd,rfl⟩⟩))
      go_roundg k1
      case measure=>have:=HK1.out;omega
      case rel=>exact ⟨(wrap64 (x5_1+1)),(by first|rfl|(simp;done)|(simp [*];done)),H',⟨by have:=HK1.out;omega⟩,⟨by (with_reducible repeat (first|apply Kd.V_alloc|apply Kd.V_drewN|apply Kd.V_drew));exact HO_0.out⟩,⟨by repeat (first|(with_reducible first|exact HB.out|apply qA|apply qN|apply q1_)|exact HB.out)⟩⟩
     ·replace c6:=Bool.eq_false_iff.mpr c6
      subst c6
      have H1:(if (rdOf ByteArray.empty l0 x5_1).toList=a1.toList then (some l0) else (if x5_1≤(l0.length:Int) then ((spec_l2Own.f (l0.take (x5_1:Int).toNat)).bind fun t193=>((some (([a1]:List ByteArray):List ByteArray)).bind fun y196=>(if t193.length+y196.length<8796093022208 then ((some (t193 ++ y196:List ByteArray)).bind fun y199=>((some (l0.drop (x5_1:Int).toNat:List ByteArray)).bind fun y202=>(if y199.length+y202.length<8796093022208 then (some (y199 ++ y202)) else (none)))) else (none)))) else (none)))=some r:=by rw [if_neg (show ¬ (false=true) by decide)] at H;exact H
      clear H
      have H:=H1
      clear H1
      by_cases c7:(rdOf ByteArray.empty l0 x5_1).toList=a1.toList
      ·rw [if_pos c7] at H
       have c7b0:((rdOf ByteArray.empty l0 x5_1).toList == a1.toList)=true:=beq_iff_eq.mpr c7
       have c7b1:((rdOf ByteArray.empty l0 x5_1).toList != a1.toList)=false:=bne_eq_false_iff_eq.mpr c7
       clear c7
       obtain rfl:=Option.some.inj H
       have p185:0≤(x5_1:Int):=of_decide_eq_true (by first|(with_reducible assumption)|assumption)
       have q185:x5_1<(l0.length:Int):=of_decide_eq_true (by first|(with_reducible assumption)|assumption)
       obtain ⟨ad185,e185,hx185_0⟩:=Kd.at_string (Kd.V_reads' HO_0.out).2.2 x5_1 p185 q185
       cases e185
       replace p185:=eq_true p185
       replace q185:=eq_true q185
       go_wp2_with (first|(go_at_call 68;(with_reducible refine (spec_l2Before.calls k1 (rdOf ByteArray.empty l0 x5_1) a1 false _ A5.out).mono ?_);rintro e w' ⟨rfl,⟨nd,rfl⟩⟩;have p187:0≤(x5_1:Int):=of_decide_eq_true (by first|(with_reducible assumption)|assumption);have q187:x5_1<(l0.length:Int):=of_decide_eq_true (by first|(with_reducible assumption)|assumption);obtain ⟨ad187,e187,hx187_0⟩:=Kd.at_string (Kd.V_reads' HO_0.out).2.2 x5_1 p187 q187;obtain rfl:ad185=ad187:=(by injection e187);replace p187:=eq_true p187;replace q187:=eq_true q187))
       go_ret
       exact ⟨_,by first|rfl|(simp [errW_none,errW_some] <;> rfl)|(simp [*,errW_none,errW_some] <;> rfl),by (with_reducible repeat (first|apply Kd.V_alloc|apply Kd.V_drewN|apply Kd.V_drew));exact HO_0.out,by repeat (first|(with_reducible first|exact HB.out|apply qA|apply qN|apply q1_)|exact HB.out)⟩
      ·rw [if_neg c7] at H
       have c7b0:((rdOf ByteArray.empty l0 x5_1).toList == a1.toList)=false:=beq_eq_false_iff_ne.mpr c7
       have c7b1:((rdOf ByteArray.empty l0 x5_1).toList != a1.toList)=true:=bne_iff_ne.mpr c7
       have c8b0:=eq_true (of_decide_eq_true (by first|(with_reducible assumption)|assumption):0≤x5_1)
       by_cases c9:x5_1≤(l0.length:Int)
       ·rw [if_pos c9] at H
        have c9b0:=eq_true c9
        have c9b1:decide (x5_1≤(l0.length:Int))=true:=decide_eq_true c9
        clear c9
        obtain ⟨y188,hy188⟩:∃ y_:List ByteArray,y_=(l0.take (x5_1:Int).toNat):=⟨_,rfl⟩
        replace H:((spec_l2Own.f y188).bind fun t193=>((some (([a1]:List ByteArray):List ByteArray)).bind fun y196=>(if t193.length+y196.length<8796093022208 then ((some (t193 ++ y196:List ByteArray)).bind fun y199=>((some (l0.drop (x5_1:Int).toNat:List ByteArray)).bind fun y202=>(if y199.length+y202.length<8796093022208 then (some (y199 ++ y202)) else (none)))) else (none))))=some r:=by first|(rw [hy188];with_reducible exact H)|(have H2_:=(Option.bind_some _ _).symm.trans H;rw [hy188];with_reducible exact H2_)|(have H2_:=(Option.bind_some _ _).symm.trans H;with_reducible exact H2_)|with_reducible exact H|(rw [hy188];exact H)|exact H
        have Ny188:=Zz.mk hy188
        clear hy188
        replace H:=Option.bind_eq_some_iff.mp H
        obtain ⟨t193,A100,H⟩:=H
        replace H:((some (([a1]:List ByteArray):List ByteArray)).bind fun y196=>(if t193.length+y196.length<8796093022208 then ((some (t193 ++ y196:List ByteArray)).bind fun y199=>((some (l0.drop (x5_1:Int).toNat:List ByteArray)).bind fun y202=>(if y199.length+y202.length<8796093022208 then (some (y199 ++ y202)) else (none)))) else (none)))=some r:=H
        have A10:=Zz.mk A100
        clear A100
        obtain ⟨y196,hy196⟩:∃ y_:List ByteArray,y_=(([a1]:List ByteArray)):=⟨_,rfl⟩
        replace H:(if t193.length+y196.length<8796093022208 then ((some (t193 ++ y196:List ByteArray)).bind fun y199=>((some (l0.drop (x5_1:Int).toNat:List ByteArray)).bind fun y202=>(if y199.length+y202.length<8796093022208 then (some (y199 ++ y202)) else (none)))) else (none))=some r:=by first|(rw [hy196];with_reducible exact H)|(have H2_:=(Option.bind_some _ _).symm.trans H;rw [hy196];with_reducible exact H2_)|(have H2_:=(Option.bind_some _ _).symm.trans H;with_reducible exact H2_)|with_reducible exact H|(rw [hy196];exact H)|exact H
        have Ny196:=Zz.mk hy196
        clear hy196
        by_cases c11:t193.length+y196.length<8796093022208
        ·rw [if_pos c11] at H
         have LMc11:=Zz.mk c11
         clear c11
         obtain ⟨y199,hy199⟩:∃ y_:List ByteArray,y_=(t193 ++ y196):=⟨_,rfl⟩
         replace H:((some (l0.drop (x5_1:Int).toNat:List ByteArray)).bind fun y202=>(if y199.length+y202.length<8796093022208 then (some (y199 ++ y202)) else (none)))=some r:=by first|(rw [hy199];with_reducible exact H)|(have H2_:=(Option.bind_some _ _).symm.trans H;rw [hy199];with_reducible exact H2_)|(have H2_:=(Option.bind_some _ _).symm.trans H;with_reducible exact H2_)|with_reducible exact H|(rw [hy199];exact H)|exact H
         have Ny199:=Zz.mk hy199
         clear hy199
         have c12b0:=eq_true (of_decide_eq_true (by first|(with_reducible assumption)|assumption):0≤x5_1)
         have c13b0:=eq_true (of_decide_eq_true (by first|(with_reducible assumption)|assumption):x5_1≤(l0.length:Int))
         obtain ⟨y202,hy202⟩:∃ y_:List ByteArray,y_=(l0.drop (x5_1:Int).toNat):=⟨_,rfl⟩
         replace H:(if y199.length+y202.length<8796093022208 then (some (y199 ++ y202)) else (none))=some r:=by first|(rw [hy202];with_reducible exact H)|(have H2_:=(Option.bind_some _ _).symm.trans H;rw [hy202];with_reducible exact H2_)|(have H2_:=(Option.bind_some _ _).symm.trans H;with_reducible exact H2_)|with_reducible exact H|(rw [hy202];exact H)|exact H
         have Ny202:=Zz.mk hy202
         clear hy202
         by_cases c14:y199.length+y202.length<8796093022208
         ·rw [if_pos c14] at H
          have LMc14:=Zz.mk c14
          clear c14
          obtain ⟨y207,hy207⟩:∃ y_:List ByteArray,y_=(y199 ++ y202):=⟨_,rfl⟩
          replace H:(some y207)=some r:=by first|(rw [hy207];with_reducible exact H)|(have H2_:=(Option.bind_some _ _).symm.trans H;rw [hy207];with_reducible exact H2_)|(have H2_:=(Option.bind_some _ _).symm.trans H;with_reducible exact H2_)|with_reducible exact H|(rw [hy207];exact H)|exact H
          have Ny207:=Zz.mk hy207
          clear hy207
          obtain rfl:=Option.some.inj H
          have p185:0≤(x5_1:Int):=of_decide_eq_true (by first|(with_reducible assumption)|assumption)
          have q185:x5_1<(l0.length:Int):=of_decide_eq_true (by first|(with_reducible assumption)|assumption)
          obtain ⟨ad185,e185,hx185_0⟩:=Kd.at_string (Kd.V_reads' HO_0.out).2.2 x5_1 p185 q185
          cases e185
          replace p185:=eq_true p185
          replace q185:=eq_true q185
          try go_wp2_with (first|(go_at_call 68;(with_reducible refine (spec_l2Before.calls k1 (rdOf ByteArray.empty l0 x5_1) a1 false _ A5.out).mono ?_);rintro e w' ⟨rfl,⟨nd,rfl⟩⟩;have p187:0≤(x5_1:Int):=of_decide_eq_true (by first|(with_reducible assumption)|assumption);have q187:x5_1<(l0.length:Int):=of_decide_eq_true (by first|(with_reducible assumption)|assumption);obtain ⟨ad187,e187,hx187_0⟩:=Kd.at_string (Kd.V_reads' HO_0.out).2.2 x5_1 p187 q187;obtain rfl:ad185=ad187:=(by injection e187);replace p187:=eq_true p187;replace q187:=eq_true q187))
          (try (rw [drewN_self wr];generalize hq_:World.drewN wr _=wr;have n0_:Zz (Kd.V Kd.string 9 wr w.heap.size (fun k_=>(P0_ k_∨w.heap.size≤k_)) (.slice (some ad185) l0.length c0) l0):=⟨by rw [← hq_];exact (by (with_reducible repeat (first|apply Kd.V_alloc|apply Kd.V_drewN|apply Kd.V_drew));exact HO_0.out)⟩;have n1_:Zz (Below w.heap.size w wr):=⟨by rw [← hq_];exact (by repeat (first|(with_reducible first|exact HB.out|apply qA|apply qN|apply q1_)|exact HB.out))⟩;clear HO_0 HB hq_;have HO_0:=n0_;have HB:=n1_;clear n0_ n1_))
          have n0_:=Zz.mk (Kd.V_drew HO_0.out)
          have n1_:=Zz.mk (q1_ HB.out)
          revert n0_ n1_
          clear HO_0 HB
          intro HO_0 HB
          have q16:(x5_1:Int)≤((l0.length:Int):Int):=of_decide_eq_true (by first|(with_reducible assumption)|assumption)
          obtain ⟨i016,hi016,_,hsz16,_⟩:=info_parts info9
          have hroom16:l0.length≤c0:=(Kd.V_reads' HO_0.out).2.1
          have hC16:Kd.F Kd.string _ _ (some ad185) l0.length l0:=(Kd.V_at (base:=w.heap.size) HO_0.out).2.2
          have hcut16:=cut_to (P:=Try.prog) 44 9 .i64 Try.underlying44 hi016 (some ad185) l0.length c0 x5_1 (of_decide_eq_true (by first|(with_reducible assumption)|assumption)) q16 hroom16
          have hr16:=Kd.F_take (m:=(x5_1:Int).toNat) hC16 (by omega)
          have hy16:y188.length=(x5_1:Int).toNat:=(by rw [Ny188.out,List.length_take];omega)
          rw [← Ny188.out] at hr16
          rw [← hy16] at hcut16
          have HO192:=Zz.mk (show Kd.V Kd.string 9 _ w.heap.size _ (.slice (some ad185) y188.length c0) y188 from Kd.V_mk (by omega) hr16)
          have HC192:=Zz.mk (show y188.length≤c0 from by omega)
          clear hr16 hC16 hroom16 hi016 hsz16
          have KY16:=Zz.mk hy16
          clear hy16
          replace q16:=eq_true q16
          have q17:(x5_1:Int)≤((l0.length:Int):Int):=of_decide_eq_true (by first|(with_reducible assumption)|assumption)
          obtain ⟨i017,hi017,_,hsz17,_⟩:=info_parts info9
          have hroom17:l0.length≤c0:=(Kd.V_reads' HO_0.out).2.1
          have hC17:Kd.F Kd.string _ _ (some ad185) l0.length l0:=(Kd.V_at (base:=w.heap.size) HO_0.out).2.2
          have q017:(0:Int)≤(x5_1:Int):=of_decide_eq_true (by first|(with_reducible assumption)|assumption)
          have hcut17:=cut_from (P:=Try.prog) 44 9 .i64 Try.underlying44 hi017 1 hsz17 (some ad185) l0.length c0 x5_1 q017 q17
          have hr17:=Kd.F_cut (m:=(x5_1:Int).toNat) (c:=c0) hC17 (by omega) hroom17
          obtain ⟨A17,hA17⟩:∃ A1,A1=(if c0=(x5_1:Int).toNat then (some ad185) else ((some ad185):Option Addr).map (·.add ((x5_1:Int).toNat * 1))):=⟨_,rfl⟩
          obtain ⟨c17,hc17⟩:∃ c1,c1=c0 - (x5_1:Int).toNat:=⟨_,rfl⟩
          have hy17:y202.length=l0.length - (x5_1:Int).toNat:=(by rw [Ny202.out,List.length_drop] <;> omega)
          rw [show (l0).drop (x5_1:Int).toNat=y202 from Ny202.out.symm] at hr17
          replace hr17:Kd.F Kd.string _ _ A17 y202.length y202:=(by rw [hA17];exact hr17)
          rw [← hy17,← hA17,← hc17] at hcut17
          have HO206:=Zz.mk (show Kd.V Kd.string 9 _ w.heap.size _ (.slice A17 y202.length c17) y202 from Kd.V_mk (by rw [hy17,hc17];exact Nat.sub_le_sub_right hroom17 _) hr17)
          have HC206:=Zz.mk (show y202.length≤c17 from by rw [hy17,hc17];exact Nat.sub_le_sub_right hroom17 _)
          clear hr17 hC17 hroom17 hi017 hsz17 hc17
          have KY17:=Zz.mk hy17
          have KA17:=Zz.mk hA17
          clear hy17 hA17
          replace q17:=eq_true q17
          refine start_ (n:=12) (S:=fun w'=>True) (ds:=[]) #[false,false,false,false,false,false,false,false,false,false,false,false] (by kernel_rfl) rfl rfl trivial (fun hHeld=>?_);refine with_tabW spec_l2Put.tab6 spec_l2Put.bits6 (fun HT_ HW_=>?_)
          generalize wr.drew=w15 at HO_0 HB HO192 HO206 hHeld ⊢
          refine pure_ (i:=0) (N:=some 33) (v:=?_) (a':=?_) #[true,false,false,false,false,false,false,false,false,false,false,false] rfl rfl (any_of HT_.out (by kernel_rfl)) (fun _ _ _ h=>h) (Or.inl ⟨by rfl,?_⟩) ?_ ?_
          rotate_left
          ·intro w'
           go_simp
           with_reducible rfl
          rotate_left
          ·simp only [Act.put,List.setIfInBounds_toArray,List.set_cons_zero,List.set_cons_succ,i64_w,i32_w]
           rfl
          refine pure_ (i:=1) (N:=some 34) (v:=?_) (a':=?_) #[true,true,false,false,false,false,false,false,false,false,false,false] rfl rfl (any_of HT_.out (by kernel_rfl)) (fun _ _ _ h=>h) (Or.inl ⟨by rfl,?_⟩) ?_ ?_
          rotate_left
          ·intro w'
           go_simp
           with_reducible rfl
          rotate_left
          ·simp only [Act.put,List.setIfInBounds_toArray,List.set_cons_zero,List.set_cons_succ,i64_w,i32_w]
           rfl
          refine pure_ (i:=2) (N:=some 35) (v:=?_) (a':=?_) #[true,true,true,false,false,false,false,false,false,false,false,false] rfl rfl (any_of HT_.out (by kernel_rfl)) (fun _ _ _ h=>h) (Or.inl ⟨by rfl,?_⟩) ?_ ?_
          rotate_left
          ·intro w'
           go_simp
           with_reducible rfl
          rotate_left
          ·simp only [Act.put,List.setIfInBounds_toArray,List.set_cons_zero,List.set_cons_succ,i64_w,i32_w]
           rfl
          refine pure_ (i:=4) (N:=some 37) (v:=?_) (a':=?_) #[true,true,true,false,true,false,false,false,false,false,false,false] rfl rfl (any_of HT_.out (by kernel_rfl)) (fun _ _ _ h=>h) (Or.inl ⟨by rfl,?_⟩) ?_ ?_
          rotate_left
          ·intro w'
           go_simp
           with_reducible rfl
          rotate_left
          ·simp only [Act.put,List.setIfInBounds_toArray,List.set_cons_zero,List.set_cons_succ,i64_w,i32_w]
           rfl
          refine pure_ (i:=7) (N:=some 40) (v:=?_) (a':=?_) #[true,true,true,false,true,false,false,true,false,false,false,false] rfl rfl (any_of HT_.out (by kernel_rfl)) (fun _ _ _ h=>h) (Or.inl ⟨by rfl,?_⟩) ?_ ?_
          rotate_left
          ·intro w'
           go_simp
           with_reducible rfl
          rotate_left
          ·simp only [Act.put,List.setIfInBounds_toArray,List.set_cons_zero,List.set_cons_succ,i64_w,i32_w]
           rfl
          refine pure_ (i:=8) (N:=some 41) (v:=?_) (a':=?_) #[true,true,true,false,true,false,false,true,true,false,false,false] rfl rfl (any_of HT_.out (by kernel_rfl)) (fun _ _ _ h=>h) (Or.inl ⟨by rfl,?_⟩) ?_ ?_
          rotate_left
          ·intro w'
           go_simp
           with_reducible rfl
          rotate_left
          ·simp only [Act.put,List.setIfInBounds_toArray,List.set_cons_zero,List.set_cons_succ,i64_w,i32_w]
           rfl
          refine pure_ (i:=9) (N:=some 42) (v:=?_) (a':=?_) #[true,true,true,false,true,false,false,true,true,true,false,false] rfl rfl (any_of HT_.out (by kernel_rfl)) (fun _ _ _ h=>h) (Or.inl ⟨by rfl,?_⟩) ?_ ?_
          rotate_left
          ·intro w'
           go_simp
           with_reducible rfl
          rotate_left
          ·simp only [Act.put,List.setIfInBounds_toArray,List.set_cons_zero,List.set_cons_succ,i64_w,i32_w]
           rfl
          refine join_ (σ:=Value × Value) 3 #[true,true,true,true,true,true,false,true,true,true,false,false] (fun s_=>[(36,s_.1),(38,s_.2)]) (fun s_ w'=>(Kd.V Kd.string 9 w' w.heap.size (fun k_=>(P0_ k_∨w.heap.size≤k_)∧some k_ ≠ (s_.1:Value).ownBlock∧some k_ ≠ (s_.2:Value).ownBlock) (.slice (some ad185) y188.length c0) y188)∧(Kd.R Kd.string 9 w' w.heap.size (fun k_=>(w.heap.size≤k_)∧some k_ ≠ (s_.2:Value).ownBlock) s_.1 t193)∧(Kd.R Kd.string 9 w' w.heap.size (fun k_=>(w.heap.size≤k_)∧some k_ ≠ (s_.1:Value).ownBlock) s_.2 y196)∧(Kd.V Kd.string 9 w' w.heap.size (fun k_=>(P0_ k_∨w.heap.size≤k_)∧some k_ ≠ (s_.1:Value).ownBlock∧some k_ ≠ (s_.2:Value).ownBlock) (.slice A17 y202.length c17) y202)∧(Kd.V Kd.string 9 w' w.heap.size (fun k_=>(P0_ k_∨w.heap.size≤k_)∧some k_ ≠ (s_.1:Value).ownBlock∧some k_ ≠ (s_.2:Value).ownBlock) (.slice (some ad185) l0.length c0) l0)∧(Below w.heap.size w w')) ?_ ?_
          rotate_left
          ·intro hCont
           refine two_ (i:=3) (j:=5) (Ni:=some 36) (Nj:=some 38) #[true,true,true,true,true,false,false,true,true,true,false,false] #[true,true,true,false,true,true,false,true,true,true,false,false] rfl rfl rfl rfl (two_of HT_.out (by kernel_rfl)) (by decide) (by decide) (fun K hK=>?_) (fun K hK=>?_)
           ·skip
            refine goes_ Try.func69 (by kernel_rfl) rfl #[.slice (some ad185) y188.length c0] (by rfl) rfl rfl (by (try simp only [List.map_toArray,List.map_cons,List.map_nil]);first|done|rfl|(simp only [List.length_drop,List.length_take];rfl)) ?_
            with_reducible refine (spec_l2Own.calls _ _ y188 t193 _ ?side1 ?side2 A10.out).mono ?_
            (case side1=>exact (Kd.V_reads' HO192.out).2.2)
            (case side2=>exact (Kd.V_reads' HO192.out).2.1)
            rintro e w18 ⟨v194,rfl,ho0,hb⟩
            refine ⟨_,rfl,?_⟩
            have n0_:=Zz.mk (Kd.V_elder' (by (with_reducible repeat (first|apply Kd.V_alloc|apply Kd.V_drewN|apply Kd.V_drew));exact HO_0.out) (Kd.R_base ho0) hb)
            have n1_:=Zz.mk (Kd.V_elder' (by (with_reducible repeat (first|apply Kd.V_alloc|apply Kd.V_drewN|apply Kd.V_drew));exact HO192.out) (Kd.R_base ho0) hb)
            have n2_:=Zz.mk (Kd.V_elder' (by (with_reducible repeat (first|apply Kd.V_alloc|apply Kd.V_drewN|apply Kd.V_drew));exact HO206.out) (Kd.R_base ho0) hb)
            have n3_:=Zz.mk (Kd.R_lower (Kd.R_newM (M:=fun k_=>(w.heap.size≤k_)) ho0 (qZ HB.out) (fun k_ h_=>h_)) (qZ HB.out))
            have n4_:=Zz.mk (qP HB.out hb)
            revert n0_ n1_ n2_ n3_ n4_
            clear HO_0 HO192 HO206 HB
            intro HO_0 HO192 HO206 HO195 HB
            (try clear hb)
            (try clear hb2)
            (try clear hk)
            (try clear hi)
            (try clear ho0)
            refine hK.out _ _ trivial (fun hHeld=>?_)
            clear hK K
            refine norm_ (a':=?_) ?_ ?_
            rotate_left
            ·show Act.put _ (some 36) _=_
             simp only [Act.put,List.setIfInBounds_toArray,List.set_cons_zero,List.set_cons_succ,i64_w,i32_w]
             rfl
            refine one_ (i:=5) (N:=some 38) #[true,true,true,true,true,true,false,true,true,true,false,false] rfl rfl (one_of HT_.out (by kernel_rfl)) (by decide) (fun K hK=>?_)
            refine Kd.R_lit_step Kd.string _ 9 ?hg (N:=38) ?hd (xs:=([a1]:List ByteArray)) (inner:=[.string a1]) (ok:=fun _=>True) (okp:=fun _=>True) ?hr ?hp (fun _ hk=>hk) trivial (Below.refl _ _) (Nat.le_refl _) (by simp) ?_;(case hd=>rfl);(case hg=>rfl);(case hr=>first|(go_simp;done)|(go_simp;rfl));(case hp=>exact (Reps.one (show Kd.M Kd.string _ _ _ a1 [.string a1] from rfl) (Reps.none _ _)))
            intro v197 w19 ho20 hb hg_ hnew_
            clear hg_ hnew_
            (first|rw [← Ny196.out] at ho20|(simp only [Int.reduceToNat] at ho20;rw [← Ny196.out] at ho20))
            have n0_:=Zz.mk (Kd.V_elder' (by (with_reducible repeat (first|apply Kd.V_alloc|apply Kd.V_drewN|apply Kd.V_drew));exact HO_0.out) (Kd.R_base ho20) hb)
            have n1_:=Zz.mk (Kd.V_elder' (by (with_reducible repeat (first|apply Kd.V_alloc|apply Kd.V_drewN|apply Kd.V_drew));exact HO192.out) (Kd.R_base ho20) hb)
            have n2_:=Zz.mk (Kd.V_elder' (by (with_reducible repeat (first|apply Kd.V_alloc|apply Kd.V_drewN|apply Kd.V_drew));exact HO206.out) (Kd.R_base ho20) hb)
            have n3_:=Zz.mk (Kd.R_elder' HO195.out (Kd.R_base ho20) hb)
            have n4_:=Zz.mk (Kd.R_lower (Kd.R_new' (Kd.R_newM (M:=fun k_=>(w.heap.size≤k_)) ho20 (qZ HB.out) (fun k_ h_=>h_)) (Kd.R_lt HO195.out)) (qZ HB.out))
            have n5_:=Zz.mk (qP HB.out hb)
            revert n0_ n1_ n2_ n3_ n4_ n5_
            clear HO_0 HO192 HO206 HO195 HB
            intro HO_0 HO192 HO206 HO195 HO198 HB
            clear hb ho20
            refine hK.out _ _ trivial (fun hHeld=>?_)
            clear hK K
            refine norm_ (a':=?_) ?_ ?_
            rotate_left
            ·show Act.put _ (some 38) _=_
             simp only [Act.put,List.setIfInBounds_toArray,List.set_cons_zero,List.set_cons_succ,i64_w,i32_w]
             rfl
            exact norm_ (by simp only [putAll,Act.put,List.setIfInBounds_toArray,List.set_cons_zero,List.set_cons_succ]) (hCont (v194,v197) _ ⟨(by (with_reducible repeat (first|apply Kd.V_alloc|apply Kd.V_drewN|apply Kd.V_drew));exact Kd.V_mono HO192.out (fun _ hk=>⟨hk.1.1,⟨hk.1.2,hk.2⟩⟩)),(Kd.R_mono HO195.out (fun _ hk=>⟨hk.1.1,hk.2⟩)),(Kd.R_mono HO198.out (fun _ hk=>⟨hk.1.1,hk.2⟩)),(by (with_reducible repeat (first|apply Kd.V_alloc|apply Kd.V_drewN|apply Kd.V_drew));exact Kd.V_mono HO206.out (fun _ hk=>⟨hk.1.1,⟨hk.1.2,hk.2⟩⟩)),(by (with_reducible repeat (first|apply Kd.V_alloc|apply Kd.V_drewN|apply Kd.V_drew));exact Kd.V_mono HO_0.out (fun _ hk=>⟨hk.1.1,⟨hk.1.2,hk.2⟩⟩)),HB.out⟩)
           ·skip
            refine Kd.R_lit_step Kd.string _ 9 ?hg (N:=38) ?hd (xs:=([a1]:List ByteArray)) (inner:=[.string a1]) (ok:=fun _=>True) (okp:=fun _=>True) ?hr ?hp (fun _ hk=>hk) trivial (Below.refl _ _) (Nat.le_refl _) (by simp) ?_;(case hd=>rfl);(case hg=>rfl);(case hr=>first|(go_simp;done)|(go_simp;rfl));(case hp=>exact (Reps.one (show Kd.M Kd.string _ _ _ a1 [.string a1] from rfl) (Reps.none _ _)))
            intro v197 w18 ho19 hb hg_ hnew_
            clear hg_ hnew_
            (first|rw [← Ny196.out] at ho19|(simp only [Int.reduceToNat] at ho19;rw [← Ny196.out] at ho19))
            have n0_:=Zz.mk (Kd.V_elder' (by (with_reducible repeat (first|apply Kd.V_alloc|apply Kd.V_drewN|apply Kd.V_drew));exact HO_0.out) (Kd.R_base ho19) hb)
            have n1_:=Zz.mk (Kd.V_elder' (by (with_reducible repeat (first|apply Kd.V_alloc|apply Kd.V_drewN|apply Kd.V_drew));exact HO192.out) (Kd.R_base ho19) hb)
            have n2_:=Zz.mk (Kd.V_elder' (by (with_reducible repeat (first|apply Kd.V_alloc|apply Kd.V_drewN|apply Kd.V_drew));exact HO206.out) (Kd.R_base ho19) hb)
            have n3_:=Zz.mk (Kd.R_lower (Kd.R_newM (M:=fun k_=>(w.heap.size≤k_)) ho19 (qZ HB.out) (fun k_ h_=>h_)) (qZ HB.out))
            have n4_:=Zz.mk (qP HB.out hb)
            revert n0_ n1_ n2_ n3_ n4_
            clear HO_0 HO192 HO206 HB
            intro HO_0 HO192 HO206 HO198 HB
            clear hb ho19
            refine hK.out _ _ trivial (fun hHeld=>?_)
            clear hK K
            refine norm_ (a':=?_) ?_ ?_
            rotate_left
            ·show Act.put _ (some 38) _=_
             simp only [Act.put,List.setIfInBounds_toArray,List.set_cons_zero,List.set_cons_succ,i64_w,i32_w]
             rfl
            refine one_ (i:=3) (N:=some 36) #[true,true,true,true,true,true,false,true,true,true,false,false] rfl rfl (one_of HT_.out (by kernel_rfl)) (by decide) (fun K hK=>?_)
            refine goes_ Try.func69 (by kernel_rfl) rfl #[.slice (some ad185) y188.length c0] (by rfl) rfl rfl (by (try simp only [List.map_toArray,List.map_cons,List.map_nil]);first|done|rfl|(simp only [List.length_drop,List.length_take];rfl)) ?_
            with_reducible refine (spec_l2Own.calls _ _ y188 t193 _ ?side1 ?side2 A10.out).mono ?_
            (case side1=>exact (Kd.V_reads' HO192.out).2.2)
            (case side2=>exact (Kd.V_reads' HO192.out).2.1)
            rintro e w20 ⟨v194,rfl,ho0,hb⟩
            refine ⟨_,rfl,?_⟩
            have n0_:=Zz.mk (Kd.V_elder' (by (with_reducible repeat (first|apply Kd.V_alloc|apply Kd.V_drewN|apply Kd.V_drew));exact HO_0.out) (Kd.R_base ho0) hb)
            have n1_:=Zz.mk (Kd.V_elder' (by (with_reducible repeat (first|apply Kd.V_alloc|apply Kd.V_drewN|apply Kd.V_drew));exact HO192.out) (Kd.R_base ho0) hb)
            have n2_:=Zz.mk (Kd.V_elder' (by (with_reducible repeat (first|apply Kd.V_alloc|apply Kd.V_drewN|apply Kd.V_drew));exact HO206.out) (Kd.R_base ho0) hb)
            have n3_:=Zz.mk (Kd.R_elder' HO198.out (Kd.R_base ho0) hb)
            have n4_:=Zz.mk (Kd.R_lower (Kd.R_new' (Kd.R_newM (M:=fun k_=>(w.heap.size≤k_)) ho0 (qZ HB.out) (fun k_ h_=>h_)) (Kd.R_lt HO198.out)) (qZ HB.out))
            have n5_:=Zz.mk (qP HB.out hb)
            revert n0_ n1_ n2_ n3_ n4_ n5_
            clear HO_0 HO192 HO206 HO198 HB
            intro HO_0 HO192 HO206 HO198 HO195 HB
            (try clear hb)
            (try clear hb2)
            (try clear hk)
            (try clear hi)
            (try clear ho0)
            refine hK.out _ _ trivial (fun hHeld=>?_)
            clear hK K
            refine norm_ (a':=?_) ?_ ?_
            rotate_left
            ·show Act.put _ (some 36) _=_
             simp only [Act.put,List.setIfInBounds_toArray,List.set_cons_zero,List.set_cons_succ,i64_w,i32_w]
             rfl
            exact norm_ (by simp only [putAll,Act.put,List.setIfInBounds_toArray,List.set_cons_zero,List.set_cons_succ]) (hCont (v194,v197) _ ⟨(by (with_reducible repeat (first|apply Kd.V_alloc|apply Kd.V_drewN|apply Kd.V_drew));exact Kd.V_mono HO192.out (fun _ hk=>⟨hk.1.1,⟨hk.2,hk.1.2⟩⟩)),(Kd.R_mono HO195.out (fun _ hk=>⟨hk.1.1,hk.2⟩)),(Kd.R_mono HO198.out (fun _ hk=>⟨hk.1.1,hk.2⟩)),(by (with_reducible repeat (first|apply Kd.V_alloc|apply Kd.V_drewN|apply Kd.V_drew));exact Kd.V_mono HO206.out (fun _ hk=>⟨hk.1.1,⟨hk.2,hk.1.2⟩⟩)),(by (with_reducible repeat (first|apply Kd.V_alloc|apply Kd.V_drewN|apply Kd.V_drew));exact Kd.V_mono HO_0.out (fun _ hk=>⟨hk.1.1,⟨hk.2,hk.1.2⟩⟩)),HB.out⟩)
          rintro ⟨v194,v197⟩ w21 ⟨h0_,h1_,h2_,h3_,h4_,h5_⟩
          have n0_:Zz (Kd.V Kd.string 9 w21 w.heap.size (fun k_=>(P0_ k_∨w.heap.size≤k_)∧some k_ ≠ (v194:Value).ownBlock∧some k_ ≠ (v197:Value).ownBlock) (.slice (some ad185) y188.length c0) y188):=⟨h0_⟩
          have n1_:Zz (Kd.R Kd.string 9 w21 w.heap.size (fun k_=>(w.heap.size≤k_)∧some k_ ≠ (v197:Value).ownBlock) v194 t193):=⟨h1_⟩
          have n2_:Zz (Kd.R Kd.string 9 w21 w.heap.size (fun k_=>(w.heap.size≤k_)∧some k_ ≠ (v194:Value).ownBlock) v197 y196):=⟨h2_⟩
          have n3_:Zz (Kd.V Kd.string 9 w21 w.heap.size (fun k_=>(P0_ k_∨w.heap.size≤k_)∧some k_ ≠ (v194:Value).ownBlock∧some k_ ≠ (v197:Value).ownBlock) (.slice A17 y202.length c17) y202):=⟨h3_⟩
          have n4_:Zz (Kd.V Kd.string 9 w21 w.heap.size (fun k_=>(P0_ k_∨w.heap.size≤k_)∧some k_ ≠ (v194:Value).ownBlock∧some k_ ≠ (v197:Value).ownBlock) (.slice (some ad185) l0.length c0) l0):=⟨h4_⟩
          have n5_:Zz (Below w.heap.size w w21):=⟨h5_⟩
          clear HO_0
          clear HB
          clear h0_ h1_ h2_ h3_ h4_ h5_
          have HO192:=n0_
          have HO195:=n1_
          have HO198:=n2_
          have HO206:=n3_
          have HO_0:=n4_
          have HB:=n5_
          clear n0_ n1_ n2_ n3_ n4_ n5_
          have hHeld:=trivial
          obtain ⟨Ao23,co23,eo23⟩:=Kd.R_slice HO198.out
          (first|subst eo23|(injection eo23 with f1_ f2_ f3_;have f4_:=f1_.symm;have f5_:=f3_.symm;clear f1_ f2_ f3_;subst f4_;subst f5_))
          refine norm_ (a':=?_) ?_ ?_
          rotate_left
          ·simp only [putAll,Act.put,List.setIfInBounds_toArray,List.set_cons_zero,List.set_cons_succ]
           rfl
          refine one_ (i:=6) (N:=some 39) #[true,true,true,true,true,true,true,true,true,true,false,false] rfl rfl (one_of HT_.out (by kernel_rfl)) (by decide) (fun K hK=>?_)
          refine Kd.R_append_rows_step Kd.string (w0:=w) w.heap.size (by rfl) (.tmp 36) (.tmp 38) 44 9 (.string ⟨#[]⟩) 16 rfl Try.underlying44 info9 rfl (by decide) (by omega) v194 t193 y196 _ _ _ (fun k_=>(w.heap.size≤k_)∧some k_ ≠ (.slice Ao23 y196.length co23:Value).ownBlock) (fun _=>False) rfl rfl ?aO ?aR (fun _ _ h=>h) (fun _ h=>h.elim) ?aF ?aB ?aS ?aL ?_
          (case aR=>repeat (first|exact (Kd.R_reads' HO198.out).2.2|(with_reducible refine Kd.C_alloc ?_ _)|(with_reducible refine Kd.C_drewN ?_ _)|(with_reducible refine Kd.C_drew ?_)))
          (case aB=>exact (by repeat (first|(with_reducible first|exact HB.out|apply qA|apply qN|apply q1_)|exact HB.out)))
          (case aF=>exact (fun k_ hk=>⟨(Nat.le_trans (qZ (by repeat (first|(with_reducible first|exact HB.out|apply qA|apply qN|apply q1_)|exact HB.out))) hk),Kd.fresh' (Kd.R_lt (by (with_reducible repeat first|apply Kd.R_alloc|apply Kd.R_drewN|apply Kd.R_drew);exact HO198.out)) k_ hk⟩))
          (case aO=>exact (by (with_reducible repeat first|apply Kd.R_alloc|apply Kd.R_drewN|apply Kd.R_drew);exact HO195.out))
          (case aS=>exact (qZ (by repeat (first|(with_reducible first|exact HB.out|apply qA|apply qN|apply q1_)|exact HB.out))))
          (case aL=>have:=LMc11.out;omega)
          intro v200 w22 ho hb hg hat
          rw [← Ny199.out] at ho
          have n0_:=Zz.mk (Kd.V_afterv (ok:=(fun k_=>(P0_ k_∨w.heap.size≤k_)∧some k_ ≠ (.slice Ao23 y196.length co23:Value).ownBlock)) (by (with_reducible repeat (first|apply Kd.V_alloc|apply Kd.V_drewN|apply Kd.V_drew));exact Kd.V_mono HO_0.out (fun _ hk=>⟨⟨hk.1,hk.2.2⟩,hk.2.1⟩)) hg hat)
          have n1_:=Zz.mk (Kd.V_afterv (ok:=(fun k_=>(P0_ k_∨w.heap.size≤k_)∧some k_ ≠ (.slice Ao23 y196.length co23:Value).ownBlock)) (by (with_reducible repeat (first|apply Kd.V_alloc|apply Kd.V_drewN|apply Kd.V_drew));exact Kd.V_mono HO192.out (fun _ hk=>⟨⟨hk.1,hk.2.2⟩,hk.2.1⟩)) hg hat)
          have n2_:=Zz.mk (Kd.V_afterv (ok:=(fun k_=>(P0_ k_∨w.heap.size≤k_)∧some k_ ≠ (.slice Ao23 y196.length co23:Value).ownBlock)) (by (with_reducible repeat (first|apply Kd.V_alloc|apply Kd.V_drewN|apply Kd.V_drew));exact Kd.V_mono HO206.out (fun _ hk=>⟨⟨hk.1,hk.2.2⟩,hk.2.1⟩)) hg hat)
          have n3_:=Zz.mk (Kd.R_after (ok:=(fun k_=>(w.heap.size≤k_))) HO198.out hg hat)
          have n4_:=Zz.mk (hb)
          have n5_:=Zz.mk (ho)
          revert n0_ n1_ n2_ n3_ n4_ n5_
          clear HO_0 HO192 HO206 HO198 HB HO195
          intro HO_0 HO192 HO206 HO198 HB HO201
          clear ho hb hg hat
          refine hK.out _ _ trivial (fun hHeld=>?_)
          clear hK K
          refine norm_ (a':=?_) ?_ ?_
          rotate_left
          ·show Act.put _ (some 39) _=_
           simp only [Act.put,List.setIfInBounds_toArray,List.set_cons_zero,List.set_cons_succ,i64_w,i32_w]
           rfl
          refine one_ (i:=10) (N:=some 43) #[true,true,true,true,true,true,true,true,true,true,true,false] rfl rfl (one_of HT_.out (by kernel_rfl)) (by decide) (fun K hK=>?_)
          refine Kd.R_append_rows_step Kd.string (w0:=w) w.heap.size (by rfl) (.tmp 39) (.tmp 42) 44 9 (.string ⟨#[]⟩) 16 rfl Try.underlying44 info9 rfl (by decide) (by omega) v200 y199 y202 _ _ _ (fun k_=>(w.heap.size≤k_)∧some k_ ≠ (.slice Ao23 y196.length co23:Value).ownBlock) (fun _=>False) rfl rfl ?aO ?aR (fun _ _ h=>h) (fun _ h=>h.elim) ?aF ?aB ?aS ?aL ?_
          (case aR=>repeat (first|exact (Kd.V_reads' HO206.out).2.2|(with_reducible refine Kd.C_alloc ?_ _)|(with_reducible refine Kd.C_drewN ?_ _)|(with_reducible refine Kd.C_drew ?_)))
          (case aB=>exact (by repeat (first|(with_reducible first|exact HB.out|apply qA|apply qN|apply q1_)|exact HB.out)))
          (case aF=>exact (fun k_ hk=>⟨(Nat.le_trans (qZ (by repeat (first|(with_reducible first|exact HB.out|apply qA|apply qN|apply q1_)|exact HB.out))) hk),Kd.fresh' (Kd.R_lt (by (with_reducible repeat first|apply Kd.R_alloc|apply Kd.R_drewN|apply Kd.R_drew);exact HO198.out)) k_ hk⟩))
          (case aO=>exact (by (with_reducible repeat first|apply Kd.R_alloc|apply Kd.R_drewN|apply Kd.R_drew);exact HO201.out))
          (case aS=>exact (qZ (by repeat (first|(with_reducible first|exact HB.out|apply qA|apply qN|apply q1_)|exact HB.out))))
          (case aL=>have:=LMc14.out;omega)
          intro v208 w24 ho hb hg hat
          rw [← Ny207.out] at ho
          have n0_:=Zz.mk (Kd.V_afterv (ok:=(fun k_=>(P0_ k_∨w.heap.size≤k_)∧some k_ ≠ (.slice Ao23 y196.length co23:Value).ownBlock)) (by (with_reducible repeat (first|apply Kd.V_alloc|apply Kd.V_drewN|apply Kd.V_drew));exact HO_0.out) hg hat)
          have n1_:=Zz.mk (Kd.V_afterv (ok:=(fun k_=>(P0_ k_∨w.heap.size≤k_)∧some k_ ≠ (.slice Ao23 y196.length co23:Value).ownBlock)) (by (with_reducible repeat (first|apply Kd.V_alloc|apply Kd.V_drewN|apply Kd.V_drew));exact HO192.out) hg hat)
          have n2_:=Zz.mk (Kd.V_afterv (ok:=(fun k_=>(P0_ k_∨w.heap.size≤k_)∧some k_ ≠ (.slice Ao23 y196.length co23:Value).ownBlock)) (by (with_reducible repeat (first|apply Kd.V_alloc|apply Kd.V_drewN|apply Kd.V_drew));exact HO206.out) hg hat)
          have n3_:=Zz.mk (Kd.R_after (ok:=(fun k_=>(w.heap.size≤k_))) HO198.out hg hat)
          have n4_:=Zz.mk (hb)
          have n5_:=Zz.mk (ho)
          revert n0_ n1_ n2_ n3_ n4_ n5_
          clear HO_0 HO192 HO206 HO198 HB HO201
          intro HO_0 HO192 HO206 HO198 HB HO209
          clear ho hb hg hat
          refine hK.out _ _ trivial (fun hHeld=>?_)
          clear hK K
          refine norm_ (a':=?_) ?_ ?_
          rotate_left
          ·show Act.put _ (some 43) _=_
           simp only [Act.put,List.setIfInBounds_toArray,List.set_cons_zero,List.set_cons_succ,i64_w,i32_w]
           rfl
          refine pure_ (i:=11) (N:=some 4) (v:=?_) (a':=?_) #[true,true,true,true,true,true,true,true,true,true,true,true] rfl rfl (any_of HT_.out (by kernel_rfl)) (fun _ _ _ h=>h) (Or.inl ⟨by rfl,?_⟩) ?_ ?_
          rotate_left
          ·intro w'
           go_simp
           with_reducible rfl
          rotate_left
          ·simp only [Act.put,List.setIfInBounds_toArray,List.set_cons_zero,List.set_cons_succ,i64_w,i32_w]
           rfl
          refine done_ (done_of HT_.out (by kernel_rfl)) ?_
          try go_wp2
          go_ret
          exact ⟨_,by first|rfl|(simp [errW_none,errW_some] <;> rfl)|(simp [*,errW_none,errW_some] <;> rfl),Kd.V_mono (Kd.R_V (by (with_reducible repeat first|apply Kd.R_alloc|apply Kd.R_drewN|apply Kd.R_drew);exact Kd.R_mono HO209.out (fun _ hk=>hk.1))) (fun k_ hk=>by first|exact ⟨(.inr (hk.1)),hk.2⟩|exact (.inr (hk))),by repeat (first|(with_reducible first|exact HB.out|apply qA|apply qN|apply q1_)|exact HB.out)⟩
         ·rw [if_neg c14] at H
          exact absurd H (by simp)
        ·rw [if_neg c11] at H
         exact absurd H (by simp)
       ·rw [if_neg c9] at H
        exact absurd H (by simp)
    ·rw [if_neg c4] at H
     exact absurd H (by simp)
   ·rw [if_neg c3] at H
    have c3b0:decide (x5_1<(l0.length:Int))=false:=decide_eq_false c3
    clear c3
    by_cases c25:0≤x5_1
    ·rw [if_pos c25] at H
     have c25b0:=eq_true c25
     have c25b1:decide (0≤x5_1)=true:=decide_eq_true c25
     clear c25
     by_cases c26:x5_1≤(l0.length:Int)
     ·rw [if_pos c26] at H
      have c26b0:=eq_true c26
      have c26b1:decide (x5_1≤(l0.length:Int))=true:=decide_eq_true c26
      clear c26
      obtain ⟨y210,hy210⟩:∃ y_:List ByteArray,y_=(l0.take (x5_1:Int).toNat):=⟨_,rfl⟩
      replace H:((spec_l2Own.f y210).bind fun t215=>((some (([a1]:List ByteArray):List ByteArray)).bind fun y218=>(if t215.length+y218.length<8796093022208 then ((some (t215 ++ y218:List ByteArray)).bind fun y221=>((some (l0.drop (x5_1:Int).toNat:List ByteArray)).bind fun y224=>(if y221.length+y224.length<8796093022208 then (some (y221 ++ y224)) else (none)))) else (none))))=some r:=by first|(rw [hy210];with_reducible exact H)|(have H2_:=(Option.bind_some _ _).symm.trans H;rw [hy210];with_reducible exact H2_)|(have H2_:=(Option.bind_some _ _).symm.trans H;with_reducible exact H2_)|with_reducible exact H|(rw [hy210];exact H)|exact H
      have Ny210:=Zz.mk hy210
      clear hy210
      replace H:=Option.bind_eq_some_iff.mp H
      obtain ⟨t215,A270,H⟩:=H
      replace H:((some (([a1]:List ByteArray):List ByteArray)).bind fun y218=>(if t215.length+y218.length<8796093022208 then ((some (t215 ++ y218:List ByteArray)).bind fun y221=>((some (l0.drop (x5_1:Int).toNat:List ByteArray)).bind fun y224=>(if y221.length+y224.length<8796093022208 then (some (y221 ++ y224)) else (none)))) else (none)))=some r:=H
      have A27:=Zz.mk A270
      clear A270
      obtain ⟨y218,hy218⟩:∃ y_:List ByteArray,y_=(([a1]:List ByteArray)):=⟨_,rfl⟩
      replace H:(if t215.length+y218.length<8796093022208 then ((some (t215 ++ y218:List ByteArray)).bind fun y221=>((some (l0.drop (x5_1:Int).toNat:List ByteArray)).bind fun y224=>(if y221.length+y224.length<8796093022208 then (some (y221 ++ y224)) else (none)))) else (none))=some r:=by first|(rw [hy218];with_reducible exact H)|(have H2_:=(Option.bind_some _ _).symm.trans H;rw [hy218];with_reducible exact H2_)|(have H2_:=(Option.bind_some _ _).symm.trans H;with_reducible exact H2_)|with_reducible exact H|(rw [hy218];exact H)|exact H
      have Ny218:=Zz.mk hy218
      clear hy218
      by_cases c28:t215.length+y218.length<8796093022208
      ·rw [if_pos c28] at H
       have LMc28:=Zz.mk c28
       clear c28
       obtain ⟨y221,hy221⟩:∃ y_:List ByteArray,y_=(t215 ++ y218):=⟨_,rfl⟩
       replace H:((some (l0.drop (x5_1:Int).toNat:List ByteArray)).bind fun y224=>(if y221.length+y224.length<8796093022208 then (some (y221 ++ y224)) else (none)))=some r:=by first|(rw [hy221];with_reducible exact H)|(have H2_:=(Option.bind_some _ _).symm.trans H;rw [hy221];with_reducible exact H2_)|(have H2_:=(Option.bind_some _ _).symm.trans H;with_reducible exact H2_)|with_reducible exact H|(rw [hy221];exact H)|exact H
       have Ny221:=Zz.mk hy221
       clear hy221
       have c29b0:=eq_true (of_decide_eq_true (by first|(with_reducible assumption)|assumption):0≤x5_1)
       have c30b0:=eq_true (of_decide_eq_true (by first|(with_reducible assumption)|assumption):x5_1≤(l0.length:Int))
       obtain ⟨y224,hy224⟩:∃ y_:List ByteArray,y_=(l0.drop (x5_1:Int).toNat):=⟨_,rfl⟩
       replace H:(if y221.length+y224.length<8796093022208 then (some (y221 ++ y224)) else (none))=some r:=by first|(rw [hy224];with_reducible exact H)|(have H2_:=(Option.bind_some _ _).symm.trans H;rw [hy224];with_reducible exact H2_)|(have H2_:=(Option.bind_some _ _).symm.trans H;with_reducible exact H2_)|with_reducible exact H|(rw [hy224];exact H)|exact H
       have Ny224:=Zz.mk hy224
       clear hy224
       by_cases c31:y221.length+y224.length<8796093022208
       ·rw [if_pos c31] at H
        have LMc31:=Zz.mk c31
        clear c31
        obtain ⟨y229,hy229⟩:∃ y_:List ByteArray,y_=(y221 ++ y224):=⟨_,rfl⟩
        replace H:(some y229)=some r:=by first|(rw [hy229];with_reducible exact H)|(have H2_:=(Option.bind_some _ _).symm.trans H;rw [hy229];with_reducible exact H2_)|(have H2_:=(Option.bind_some _ _).symm.trans H;with_reducible exact H2_)|with_reducible exact H|(rw [hy229];exact H)|exact H
        have Ny229:=Zz.mk hy229
        clear hy229
        obtain rfl:=Option.some.inj H
        try go_wp2
        have n0_:=Zz.mk (Kd.V_drew HO_0.out)
        have n1_:=Zz.mk (q1_ HB.out)
        revert n0_ n1_
        clear HO_0 HB
        intro HO_0 HB
        have q33:(x5_1:Int)≤((l0.length:Int):Int):=of_decide_eq_true (by first|(with_reducible assumption)|assumption)
        obtain ⟨i033,hi033,_,hsz33,_⟩:=info_parts info9
        have hroom33:l0.length≤c0:=(Kd.V_reads' HO_0.out).2.1
        have hC33:Kd.F Kd.string _ _ A0 l0.length l0:=(Kd.V_at (base:=w.heap.size) HO_0.out).2.2
        have hcut33:=cut_to (P:=Try.prog) 44 9 .i64 Try.underlying44 hi033 A0 l0.length c0 x5_1 (of_decide_eq_true (by first|(with_reducible assumption)|assumption)) q33 hroom33
        have hr33:=Kd.F_take (m:=(x5_1:Int).toNat) hC33 (by omega)
        have hy33:y210.length=(x5_1:Int).toNat:=(by rw [Ny210.out,List.length_take];omega)
        rw [← Ny210.out] at hr33
        rw [← hy33] at hcut33
        have HO214:=Zz.mk (show Kd.V Kd.string 9 _ w.heap.size _ (.slice A0 y210.length c0) y210 from Kd.V_mk (by omega) hr33)
        have HC214:=Zz.mk (show y210.length≤c0 from by omega)
        clear hr33 hC33 hroom33 hi033 hsz33
        have KY33:=Zz.mk hy33
        clear hy33
        replace q33:=eq_true q33
        have q34:(x5_1:Int)≤((l0.length:Int):Int):=of_decide_eq_true (by first|(with_reducible assumption)|assumption)
        obtain ⟨i034,hi034,_,hsz34,_⟩:=info_parts info9
        have hroom34:l0.length≤c0:=(Kd.V_reads' HO_0.out).2.1
        have hC34:Kd.F Kd.string _ _ A0 l0.length l0:=(Kd.V_at (base:=w.heap.size) HO_0.out).2.2
        have q034:(0:Int)≤(x5_1:Int):=of_decide_eq_true (by first|(with_reducible assumption)|assumption)
        have hcut34:=cut_from (P:=Try.prog) 44 9 .i64 Try.underlying44 hi034 1 hsz34 A0 l0.length c0 x5_1 q034 q34
        have hr34:=Kd.F_cut (m:=(x5_1:Int).toNat) (c:=c0) hC34 (by omega) hroom34
        obtain ⟨A34,hA34⟩:∃ A1,A1=(if c0=(x5_1:Int).toNat then A0 else (A0:Option Addr).map (·.add ((x5_1:Int).toNat * 1))):=⟨_,rfl⟩
        obtain ⟨c34,hc34⟩:∃ c1,c1=c0 - (x5_1:Int).toNat:=⟨_,rfl⟩
        have hy34:y224.length=l0.length - (x5_1:Int).toNat:=(by rw [Ny224.out,List.length_drop] <;> omega)
        rw [show (l0).drop (x5_1:Int).toNat=y224 from Ny224.out.symm] at hr34
        replace hr34:Kd.F Kd.string _ _ A34 y224.length y224:=(by rw [hA34];exact hr34)
        rw [← hy34,← hA34,← hc34] at hcut34
        have HO228:=Zz.mk (show Kd.V Kd.string 9 _ w.heap.size _ (.slice A34 y224.length c34) y224 from Kd.V_mk (by rw [hy34,hc34];exact Nat.sub_le_sub_right hroom34 _) hr34)
        have HC228:=Zz.mk (show y224.length≤c34 from by rw [hy34,hc34];exact Nat.sub_le_sub_right hroom34 _)
        clear hr34 hC34 hroom34 hi034 hsz34 hc34
        have KY34:=Zz.mk hy34
        have KA34:=Zz.mk hA34
        clear hy34 hA34
        replace q34:=eq_true q34
        refine start_ (n:=12) (S:=fun w'=>True) (ds:=[]) #[false,false,false,false,false,false,false,false,false,false,false,false] (by kernel_rfl) rfl rfl trivial (fun hHeld=>?_);refine with_tabW spec_l2Put.tab6 spec_l2Put.bits6 (fun HT_ HW_=>?_)
        generalize wr.drew=w32 at HO_0 HB HO214 HO228 hHeld ⊢
        refine pure_ (i:=0) (N:=some 33) (v:=?_) (a':=?_) #[true,false,false,false,false,false,false,false,false,false,false,false] rfl rfl (any_of HT_.out (by kernel_rfl)) (fun _ _ _ h=>h) (Or.inl ⟨by rfl,?_⟩) ?_ ?_
        rotate_left
        ·intro w'
         go_simp
         with_reducible rfl
        rotate_left
        ·simp only [Act.put,List.setIfInBounds_toArray,List.set_cons_zero,List.set_cons_succ,i64_w,i32_w]
         rfl
        refine pure_ (i:=1) (N:=some 34) (v:=?_) (a':=?_) #[true,true,false,false,false,false,false,false,false,false,false,false] rfl rfl (any_of HT_.out (by kernel_rfl)) (fun _ _ _ h=>h) (Or.inl ⟨by rfl,?_⟩) ?_ ?_
        rotate_left
        ·intro w'
         go_simp
         with_reducible rfl
        rotate_left
        ·simp only [Act.put,List.setIfInBounds_toArray,List.set_cons_zero,List.set_cons_succ,i64_w,i32_w]
         rfl
        refine pure_ (i:=2) (N:=some 35) (v:=?_) (a':=?_) #[true,true,true,false,false,false,false,false,false,false,false,false] rfl rfl (any_of HT_.out (by kernel_rfl)) (fun _ _ _ h=>h) (Or.inl ⟨by rfl,?_⟩) ?_ ?_
        rotate_left
        ·intro w'
         go_simp
         with_reducible rfl
        rotate_left
        ·simp only [Act.put,List.setIfInBounds_toArray,List.set_cons_zero,List.set_cons_succ,i64_w,i32_w]
         rfl
        refine pure_ (i:=4) (N:=some 37) (v:=?_) (a':=?_) #[true,true,true,false,true,false,false,false,false,false,false,false] rfl rfl (any_of HT_.out (by kernel_rfl)) (fun _ _ _ h=>h) (Or.inl ⟨by rfl,?_⟩) ?_ ?_
        rotate_left
        ·intro w'
         go_simp
         with_reducible rfl
        rotate_left
        ·simp only [Act.put,List.setIfInBounds_toArray,List.set_cons_zero,List.set_cons_succ,i64_w,i32_w]
         rfl
        refine pure_ (i:=7) (N:=some 40) (v:=?_) (a':=?_) #[true,true,true,false,true,false,false,true,false,false,false,false] rfl rfl (any_of HT_.out (by kernel_rfl)) (fun _ _ _ h=>h) (Or.inl ⟨by rfl,?_⟩) ?_ ?_
        rotate_left
        ·intro w'
         go_simp
         with_reducible rfl
        rotate_left
        ·simp only [Act.put,List.setIfInBounds_toArray,List.set_cons_zero,List.set_cons_succ,i64_w,i32_w]
         rfl
        refine pure_ (i:=8) (N:=some 41) (v:=?_) (a':=?_) #[true,true,true,false,true,false,false,true,true,false,false,false] rfl rfl (any_of HT_.out (by kernel_rfl)) (fun _ _ _ h=>h) (Or.inl ⟨by rfl,?_⟩) ?_ ?_
        rotate_left
        ·intro w'
         go_simp
         with_reducible rfl
        rotate_left
        ·simp only [Act.put,List.setIfInBounds_toArray,List.set_cons_zero,List.set_cons_succ,i64_w,i32_w]
         rfl
        refine pure_ (i:=9) (N:=some 42) (v:=?_) (a':=?_) #[true,true,true,false,true,false,false,true,true,true,false,false] rfl rfl (any_of HT_.out (by kernel_rfl)) (fun _ _ _ h=>h) (Or.inl ⟨by rfl,?_⟩) ?_ ?_
        rotate_left
        ·intro w'
         go_simp
         with_reducible rfl
        rotate_left
        ·simp only [Act.put,List.setIfInBounds_toArray,List.set_cons_zero,List.set_cons_succ,i64_w,i32_w]
         rfl
        refine join_ (σ:=Value × Value) 3 #[true,true,true,true,true,true,false,true,true,true,false,false] (fun s_=>[(36,s_.1),(38,s_.2)]) (fun s_ w'=>(Kd.V Kd.string 9 w' w.heap.size (fun k_=>(P0_ k_∨w.heap.size≤k_)∧some k_ ≠ (s_.1:Value).ownBlock∧some k_ ≠ (s_.2:Value).ownBlock) (.slice A0 y210.length c0) y210)∧(Kd.R Kd.string 9 w' w.heap.size (fun k_=>(w.heap.size≤k_)∧some k_ ≠ (s_.2:Value).ownBlock) s_.1 t215)∧(Kd.R Kd.string 9 w' w.heap.size (fun k_=>(w.heap.size≤k_)∧some k_ ≠ (s_.1:Value).ownBlock) s_.2 y218)∧(Kd.V Kd.string 9 w' w.heap.size (fun k_=>(P0_ k_∨w.heap.size≤k_)∧some k_ ≠ (s_.1:Value).ownBlock∧some k_ ≠ (s_.2:Value).ownBlock) (.slice A34 y224.length c34) y224)∧(Kd.V Kd.string 9 w' w.heap.size (fun k_=>(P0_ k_∨w.heap.size≤k_)∧some k_ ≠ (s_.1:Value).ownBlock∧some k_ ≠ (s_.2:Value).ownBlock) (.slice A0 l0.length c0) l0)∧(Below w.heap.size w w')) ?_ ?_
        rotate_left
        ·intro hCont
         refine two_ (i:=3) (j:=5) (Ni:=some 36) (Nj:=some 38) #[true,true,true,true,true,false,false,true,true,true,false,false] #[true,true,true,false,true,true,false,true,true,true,false,false] rfl rfl rfl rfl (two_of HT_.out (by kernel_rfl)) (by decide) (by decide) (fun K hK=>?_) (fun K hK=>?_)
         ·skip
          refine goes_ Try.func69 (by kernel_rfl) rfl #[.slice A0 y210.length c0] (by rfl) rfl rfl (by (try simp only [List.map_toArray,List.map_cons,List.map_nil]);first|done|rfl|(simp only [List.length_drop,List.length_take];rfl)) ?_
          with_reducible refine (spec_l2Own.calls _ _ y210 t215 _ ?side1 ?side2 A27.out).mono ?_
          (case side1=>exact (Kd.V_reads' HO214.out).2.2)
          (case side2=>exact (Kd.V_reads' HO214.out).2.1)
          rintro e w35 ⟨v216,rfl,ho0,hb⟩
          refine ⟨_,rfl,?_⟩
          have n0_:=Zz.mk (Kd.V_elder' (by (with_reducible repeat (first|apply Kd.V_alloc|apply Kd.V_drewN|apply Kd.V_drew));exact HO_0.out) (Kd.R_base ho0) hb)
          have n1_:=Zz.mk (Kd.V_elder' (by (with_reducible repeat (first|apply Kd.V_alloc|apply Kd.V_drewN|apply Kd.V_drew));exact HO214.out) (Kd.R_base ho0) hb)
          have n2_:=Zz.mk (Kd.V_elder' (by (with_reducible repeat (first|apply Kd.V_alloc|apply Kd.V_drewN|apply Kd.V_drew));exact HO228.out) (Kd.R_base ho0) hb)
          have n3_:=Zz.mk (Kd.R_lower (Kd.R_newM (M:=fun k_=>(w.heap.size≤k_)) ho0 (qZ HB.out) (fun k_ h_=>h_)) (qZ HB.out))
          have n4_:=Zz.mk (qP HB.out hb)
          revert n0_ n1_ n2_ n3_ n4_
          clear HO_0 HO214 HO228 HB
          intro HO_0 HO214 HO228 HO217 HB
          (try clear hb)
          (try clear hb2)
          (try clear hk)
          (try clear hi)
          (try clear ho0)
          refine hK.out _ _ trivial (fun hHeld=>?_)
          clear hK K
          refine norm_ (a':=?_) ?_ ?_
          rotate_left
          ·show Act.put _ (some 36) _=_
           simp only [Act.put,List.setIfInBounds_toArray,List.set_cons_zero,List.set_cons_succ,i64_w,i32_w]
           rfl
          refine one_ (i:=5) (N:=some 38) #[true,true,true,true,true,true,false,true,true,true,false,false] rfl rfl (one_of HT_.out (by kernel_rfl)) (by decide) (fun K hK=>?_)
          refine Kd.R_lit_step Kd.string _ 9 ?hg (N:=38) ?hd (xs:=([a1]:List ByteArray)) (inner:=[.string a1]) (ok:=fun _=>True) (okp:=fun _=>True) ?hr ?hp (fun _ hk=>hk) trivial (Below.refl _ _) (Nat.le_refl _) (by simp) ?_;(case hd=>rfl);(case hg=>rfl);(case hr=>first|(go_simp;done)|(go_simp;rfl));(case hp=>exact (Reps.one (show Kd.M Kd.string _ _ _ a1 [.string a1] from rfl) (Reps.none _ _)))
          intro v219 w36 ho37 hb hg_ hnew_
          clear hg_ hnew_
          (first|rw [← Ny218.out] at ho37|(simp only [Int.reduceToNat] at ho37;rw [← Ny218.out] at ho37))
          have n0_:=Zz.mk (Kd.V_elder' (by (with_reducible repeat (first|apply Kd.V_alloc|apply Kd.V_drewN|apply Kd.V_drew));exact HO_0.out) (Kd.R_base ho37) hb)
          have n1_:=Zz.mk (Kd.V_elder' (by (with_reducible repeat (first|apply Kd.V_alloc|apply Kd.V_drewN|apply Kd.V_drew));exact HO214.out) (Kd.R_base ho37) hb)
          have n2_:=Zz.mk (Kd.V_elder' (by (with_reducible repeat (first|apply Kd.V_alloc|apply Kd.V_drewN|apply Kd.V_drew));exact HO228.out) (Kd.R_base ho37) hb)
          have n3_:=Zz.mk (Kd.R_elder' HO217.out (Kd.R_base ho37) hb)
          have n4_:=Zz.mk (Kd.R_lower (Kd.R_new' (Kd.R_newM (M:=fun k_=>(w.heap.size≤k_)) ho37 (qZ HB.out) (fun k_ h_=>h_)) (Kd.R_lt HO217.out)) (qZ HB.out))
          have n5_:=Zz.mk (qP HB.out hb)
          revert n0_ n1_ n2_ n3_ n4_ n5_
          clear HO_0 HO214 HO228 HO217 HB
          intro HO_0 HO214 HO228 HO217 HO220 HB
          clear hb ho37
          refine hK.out _ _ trivial (fun hHeld=>?_)
          clear hK K
          refine norm_ (a':=?_) ?_ ?_
          rotate_left
          ·show Act.put _ (some 38) _=_
           simp only [Act.put,List.setIfInBounds_toArray,List.set_cons_zero,List.set_cons_succ,i64_w,i32_w]
           rfl
          exact norm_ (by simp only [putAll,Act.put,List.setIfInBounds_toArray,List.set_cons_zero,List.set_cons_succ]) (hCont (v216,v219) _ ⟨(by (with_reducible repeat (first|apply Kd.V_alloc|apply Kd.V_drewN|apply Kd.V_drew));exact Kd.V_mono HO214.out (fun _ hk=>⟨hk.1.1,⟨hk.1.2,hk.2⟩⟩)),(Kd.R_mono HO217.out (fun _ hk=>⟨hk.1.1,hk.2⟩)),(Kd.R_mono HO220.out (fun _ hk=>⟨hk.1.1,hk.2⟩)),(by (with_reducible repeat (first|apply Kd.V_alloc|apply Kd.V_drewN|apply Kd.V_drew));exact Kd.V_mono HO228.out (fun _ hk=>⟨hk.1.1,⟨hk.1.2,hk.2⟩⟩)),(by (with_reducible repeat (first|apply Kd.V_alloc|apply Kd.V_drewN|apply Kd.V_drew));exact Kd.V_mono HO_0.out (fun _ hk=>⟨hk.1.1,⟨hk.1.2,hk.2⟩⟩)),HB.out⟩)
         ·skip
          refine Kd.R_lit_step Kd.string _ 9 ?hg (N:=38) ?hd (xs:=([a1]:List ByteArray)) (inner:=[.string a1]) (ok:=fun _=>True) (okp:=fun _=>True) ?hr ?hp (fun _ hk=>hk) trivial (Below.refl _ _) (Nat.le_refl _) (by simp) ?_;(case hd=>rfl);(case hg=>rfl);(case hr=>first|(go_simp;done)|(go_simp;rfl));(case hp=>exact (Reps.one (show Kd.M Kd.string _ _ _ a1 [.string a1] from rfl) (Reps.none _ _)))
          intro v219 w35 ho36 hb hg_ hnew_
          clear hg_ hnew_
          (first|rw [← Ny218.out] at ho36|(simp only [Int.reduceToNat] at ho36;rw [← Ny218.out] at ho36))
          have n0_:=Zz.mk (Kd.V_elder' (by (with_reducible repeat (first|apply Kd.V_alloc|apply Kd.V_drewN|apply Kd.V_drew));exact HO_0.out) (Kd.R_base ho36) hb)
          have n1_:=Zz.mk (Kd.V_elder' (by (with_reducible repeat (first|apply Kd.V_alloc|apply Kd.V_drewN|apply Kd.V_drew));exact HO214.out) (Kd.R_base ho36) hb)
          have n2_:=Zz.mk (Kd.V_elder' (by (with_reducible repeat (first|apply Kd.V_alloc|apply Kd.V_drewN|apply Kd.V_drew));exact HO228.out) (Kd.R_base ho36) hb)
          have n3_:=Zz.mk (Kd.R_lower (Kd.R_newM (M:=fun k_=>(w.heap.size≤k_)) ho36 (qZ HB.out) (fun k_ h_=>h_)) (qZ HB.out))
          have n4_:=Zz.mk (qP HB.out hb)
          revert n0_ n1_ n2_ n3_ n4_
          clear HO_0 HO214 HO228 HB
          intro HO_0 HO214 HO228 HO220 HB
          clear hb ho36
          refine hK.out _ _ trivial (fun hHeld=>?_)
          clear hK K
          refine norm_ (a':=?_) ?_ ?_
          rotate_left
          ·show Act.put _ (some 38) _=_
           simp only [Act.put,List.setIfInBounds_toArray,List.set_cons_zero,List.set_cons_succ,i64_w,i32_w]
           rfl
          refine one_ (i:=3) (N:=some 36) #[true,true,true,true,true,true,false,true,true,true,false,false] rfl rfl (one_of HT_.out (by kernel_rfl)) (by decide) (fun K hK=>?_)
          refine goes_ Try.func69 (by kernel_rfl) rfl #[.slice A0 y210.length c0] (by rfl) rfl rfl (by (try simp only [List.map_toArray,List.map_cons,List.map_nil]);first|done|rfl|(simp only [List.length_drop,List.length_take];rfl)) ?_
          with_reducible refine (spec_l2Own.calls _ _ y210 t215 _ ?side1 ?side2 A27.out).mono ?_
          (case side1=>exact (Kd.V_reads' HO214.out).2.2)
          (case side2=>exact (Kd.V_reads' HO214.out).2.1)
          rintro e w37 ⟨v216,rfl,ho0,hb⟩
          refine ⟨_,rfl,?_⟩
          have n0_:=Zz.mk (Kd.V_elder' (by (with_reducible repeat (first|apply Kd.V_alloc|apply Kd.V_drewN|apply Kd.V_drew));exact HO_0.out) (Kd.R_base ho0) hb)
          have n1_:=Zz.mk (Kd.V_elder' (by (with_reducible repeat (first|apply Kd.V_alloc|apply Kd.V_drewN|apply Kd.V_drew));exact HO214.out) (Kd.R_base ho0) hb)
          have n2_:=Zz.mk (Kd.V_elder' (by (with_reducible repeat (first|apply Kd.V_alloc|apply Kd.V_drewN|apply Kd.V_drew));exact HO228.out) (Kd.R_base ho0) hb)
          have n3_:=Zz.mk (Kd.R_elder' HO220.out (Kd.R_base ho0) hb)
          have n4_:=Zz.mk (Kd.R_lower (Kd.R_new' (Kd.R_newM (M:=fun k_=>(w.heap.size≤k_)) ho0 (qZ HB.out) (fun k_ h_=>h_)) (Kd.R_lt HO220.out)) (qZ HB.out))
          have n5_:=Zz.mk (qP HB.out hb)
          revert n0_ n1_ n2_ n3_ n4_ n5_
          clear HO_0 HO214 HO228 HO220 HB
          intro HO_0 HO214 HO228 HO220 HO217 HB
          (try clear hb)
          (try clear hb2)
          (try clear hk)
          (try clear hi)
          (try clear ho0)
          refine hK.out _ _ trivial (fun hHeld=>?_)
          clear hK K
          refine norm_ (a':=?_) ?_ ?_
          rotate_left
          ·show Act.put _ (some 36) _=_
           simp only [Act.put,List.setIfInBounds_toArray,List.set_cons_zero,List.set_cons_succ,i64_w,i32_w]
           rfl
          exact norm_ (by simp only [putAll,Act.put,List.setIfInBounds_toArray,List.set_cons_zero,List.set_cons_succ]) (hCont (v216,v219) _ ⟨(by (with_reducible repeat (first|apply Kd.V_alloc|apply Kd.V_drewN|apply Kd.V_drew));exact Kd.V_mono HO214.out (fun _ hk=>⟨hk.1.1,⟨hk.2,hk.1.2⟩⟩)),(Kd.R_mono HO217.out (fun _ hk=>⟨hk.1.1,hk.2⟩)),(Kd.R_mono HO220.out (fun _ hk=>⟨hk.1.1,hk.2⟩)),(by (with_reducible repeat (first|apply Kd.V_alloc|apply Kd.V_drewN|apply Kd.V_drew));exact Kd.V_mono HO228.out (fun _ hk=>⟨hk.1.1,⟨hk.2,hk.1.2⟩⟩)),(by (with_reducible repeat (first|apply Kd.V_alloc|apply Kd.V_drewN|apply Kd.V_drew));exact Kd.V_mono HO_0.out (fun _ hk=>⟨hk.1.1,⟨hk.2,hk.1.2⟩⟩)),HB.out⟩)
        rintro ⟨v216,v219⟩ w38 ⟨h0_,h1_,h2_,h3_,h4_,h5_⟩
        have n0_:Zz (Kd.V Kd.string 9 w38 w.heap.size (fun k_=>(P0_ k_∨w.heap.size≤k_)∧some k_ ≠ (v216:Value).ownBlock∧some k_ ≠ (v219:Value).ownBlock) (.slice A0 y210.length c0) y210):=⟨h0_⟩
        have n1_:Zz (Kd.R Kd.string 9 w38 w.heap.size (fun k_=>(w.heap.size≤k_)∧some k_ ≠ (v219:Value).ownBlock) v216 t215):=⟨h1_⟩
        have n2_:Zz (Kd.R Kd.string 9 w38 w.heap.size (fun k_=>(w.heap.size≤k_)∧some k_ ≠ (v216:Value).ownBlock) v219 y218):=⟨h2_⟩
        have n3_:Zz (Kd.V Kd.string 9 w38 w.heap.size (fun k_=>(P0_ k_∨w.heap.size≤k_)∧some k_ ≠ (v216:Value).ownBlock∧some k_ ≠ (v219:Value).ownBlock) (.slice A34 y224.length c34) y224):=⟨h3_⟩
        have n4_:Zz (Kd.V Kd.string 9 w38 w.heap.size (fun k_=>(P0_ k_∨w.heap.size≤k_)∧some k_ ≠ (v216:Value).ownBlock∧some k_ ≠ (v219:Value).ownBlock) (.slice A0 l0.length c0) l0):=⟨h4_⟩
        have n5_:Zz (Below w.heap.size w w38):=⟨h5_⟩
        clear HO_0
        clear HB
        clear h0_ h1_ h2_ h3_ h4_ h5_
        have HO214:=n0_
        have HO217:=n1_
        have HO220:=n2_
        have HO228:=n3_
        have HO_0:=n4_
        have HB:=n5_
        clear n0_ n1_ n2_ n3_ n4_ n5_
        have hHeld:=trivial
        obtain ⟨Ao40,co40,eo40⟩:=Kd.R_slice HO220.out
        (first|subst eo40|(injection eo40 with f1_ f2_ f3_;have f4_:=f1_.symm;have f5_:=f3_.symm;clear f1_ f2_ f3_;subst f4_;subst f5_))
        refine norm_ (a':=?_) ?_ ?_
        rotate_left
        ·simp only [putAll,Act.put,List.setIfInBounds_toArray,List.set_cons_zero,List.set_cons_succ]
         rfl
        refine one_ (i:=6) (N:=some 39) #[true,true,true,true,true,true,true,true,true,true,false,false] rfl rfl (one_of HT_.out (by kernel_rfl)) (by decide) (fun K hK=>?_)
        refine Kd.R_append_rows_step Kd.string (w0:=w) w.heap.size (by rfl) (.tmp 36) (.tmp 38) 44 9 (.string ⟨#[]⟩) 16 rfl Try.underlying44 info9 rfl (by decide) (by omega) v216 t215 y218 _ _ _ (fun k_=>(w.heap.size≤k_)∧some k_ ≠ (.slice Ao40 y218.length co40:Value).ownBlock) (fun _=>False) rfl rfl ?aO ?aR (fun _ _ h=>h) (fun _ h=>h.elim) ?aF ?aB ?aS ?aL ?_
        (case aR=>repeat (first|exact (Kd.R_reads' HO220.out).2.2|(with_reducible refine Kd.C_alloc ?_ _)|(with_reducible refine Kd.C_drewN ?_ _)|(with_reducible refine Kd.C_drew ?_)))
        (case aB=>exact (by repeat (first|(with_reducible first|exact HB.out|apply qA|apply qN|apply q1_)|exact HB.out)))
        (case aF=>exact (fun k_ hk=>⟨(Nat.le_trans (qZ (by repeat (first|(with_reducible first|exact HB.out|apply qA|apply qN|apply q1_)|exact HB.out))) hk),Kd.fresh' (Kd.R_lt (by (with_reducible repeat first|apply Kd.R_alloc|apply Kd.R_drewN|apply Kd.R_drew);exact HO220.out)) k_ hk⟩))
        (case aO=>exact (by (with_reducible repeat first|apply Kd.R_alloc|apply Kd.R_drewN|apply Kd.R_drew);exact HO217.out))
        (case aS=>exact (qZ (by repeat (first|(with_reducible first|exact HB.out|apply qA|apply qN|apply q1_)|exact HB.out))))
        (case aL=>have:=LMc28.out;omega)
        intro v222 w39 ho hb hg hat
        rw [← Ny221.out] at ho
        have n0_:=Zz.mk (Kd.V_afterv (ok:=(fun k_=>(P0_ k_∨w.heap.size≤k_)∧some k_ ≠ (.slice Ao40 y218.length co40:Value).ownBlock)) (by (with_reducible repeat (first|apply Kd.V_alloc|apply Kd.V_drewN|apply Kd.V_drew));exact Kd.V_mono HO_0.out (fun _ hk=>⟨⟨hk.1,hk.2.2⟩,hk.2.1⟩)) hg hat)
        have n1_:=Zz.mk (Kd.V_afterv (ok:=(fun k_=>(P0_ k_∨w.heap.size≤k_)∧some k_ ≠ (.slice Ao40 y218.length co40:Value).ownBlock)) (by (with_reducible repeat (first|apply Kd.V_alloc|apply Kd.V_drewN|apply Kd.V_drew));exact Kd.V_mono HO214.out (fun _ hk=>⟨⟨hk.1,hk.2.2⟩,hk.2.1⟩)) hg hat)
        have n2_:=Zz.mk (Kd.V_afterv (ok:=(fun k_=>(P0_ k_∨w.heap.size≤k_)∧some k_ ≠ (.slice Ao40 y218.length co40:Value).ownBlock)) (by (with_reducible repeat (first|apply Kd.V_alloc|apply Kd.V_drewN|apply Kd.V_drew));exact Kd.V_mono HO228.out (fun _ hk=>⟨⟨hk.1,hk.2.2⟩,hk.2.1⟩)) hg hat)
        have n3_:=Zz.mk (Kd.R_after (ok:=(fun k_=>(w.heap.size≤k_))) HO220.out hg hat)
        have n4_:=Zz.mk (hb)
        have n5_:=Zz.mk (ho)
        revert n0_ n1_ n2_ n3_ n4_ n5_
        clear HO_0 HO214 HO228 HO220 HB HO217
        intro HO_0 HO214 HO228 HO220 HB HO223
        clear ho hb hg hat
        refine hK.out _ _ trivial (fun hHeld=>?_)
        clear hK K
        refine norm_ (a':=?_) ?_ ?_
        rotate_left
        ·show Act.put _ (some 39) _=_
         simp only [Act.put,List.setIfInBounds_toArray,List.set_cons_zero,List.set_cons_succ,i64_w,i32_w]
         rfl
        refine one_ (i:=10) (N:=some 43) #[true,true,true,true,true,true,true,true,true,true,true,false] rfl rfl (one_of HT_.out (by kernel_rfl)) (by decide) (fun K hK=>?_)
        refine Kd.R_append_rows_step Kd.string (w0:=w) w.heap.size (by rfl) (.tmp 39) (.tmp 42) 44 9 (.string ⟨#[]⟩) 16 rfl Try.underlying44 info9 rfl (by decide) (by omega) v222 y221 y224 _ _ _ (fun k_=>(w.heap.size≤k_)∧some k_ ≠ (.slice Ao40 y218.length co40:Value).ownBlock) (fun _=>False) rfl rfl ?aO ?aR (fun _ _ h=>h) (fun _ h=>h.elim) ?aF ?aB ?aS ?aL ?_
        (case aR=>repeat (first|exact (Kd.V_reads' HO228.out).2.2|(with_reducible refine Kd.C_alloc ?_ _)|(with_reducible refine Kd.C_drewN ?_ _)|(with_reducible refine Kd.C_drew ?_)))
        (case aB=>exact (by repeat (first|(with_reducible first|exact HB.out|apply qA|apply qN|apply q1_)|exact HB.out)))
        (case aF=>exact (fun k_ hk=>⟨(Nat.le_trans (qZ (by repeat (first|(with_reducible first|exact HB.out|apply qA|apply qN|apply q1_)|exact HB.out))) hk),Kd.fresh' (Kd.R_lt (by (with_reducible repeat first|apply Kd.R_alloc|apply Kd.R_drewN|apply Kd.R_drew);exact HO220.out)) k_ hk⟩))
        (case aO=>exact (by (with_reducible repeat first|apply Kd.R_alloc|apply Kd.R_drewN|apply Kd.R_drew);exact HO223.out))
        (case aS=>exact (qZ (by repeat (first|(with_reducible first|exact HB.out|apply qA|apply qN|apply q1_)|exact HB.out))))
        (case aL=>have:=LMc31.out;omega)
        intro v230 w41 ho hb hg hat
        rw [← Ny229.out] at ho
        have n0_:=Zz.mk (Kd.V_afterv (ok:=(fun k_=>(P0_ k_∨w.heap.size≤k_)∧some k_ ≠ (.slice Ao40 y218.length co40:Value).ownBlock)) (by (with_reducible repeat (first|apply Kd.V_alloc|apply Kd.V_drewN|apply Kd.V_drew));exact HO_0.out) hg hat)
        have n1_:=Zz.mk (Kd.V_afterv (ok:=(fun k_=>(P0_ k_∨w.heap.size≤k_)∧some k_ ≠ (.slice Ao40 y218.length co40:Value).ownBlock)) (by (with_reducible repeat (first|apply Kd.V_alloc|apply Kd.V_drewN|apply Kd.V_drew));exact HO214.out) hg hat)
        have n2_:=Zz.mk (Kd.V_afterv (ok:=(fun k_=>(P0_ k_∨w.heap.size≤k_)∧some k_ ≠ (.slice Ao40 y218.length co40:Value).ownBlock)) (by (with_reducible repeat (first|apply Kd.V_alloc|apply Kd.V_drewN|apply Kd.V_drew));exact HO228.out) hg hat)
        have n3_:=Zz.mk (Kd.R_after (ok:=(fun k_=>(w.heap.size≤k_))) HO220.out hg hat)
        have n4_:=Zz.mk (hb)
        have n5_:=Zz.mk (ho)
        revert n0_ n1_ n2_ n3_ n4_ n5_
        clear HO_0 HO214 HO228 HO220 HB HO223
        intro HO_0 HO214 HO228 HO220 HB HO231
        clear ho hb hg hat
        refine hK.out _ _ trivial (fun hHeld=>?_)
        clear hK K
        refine norm_ (a':=?_) ?_ ?_
        rotate_left
        ·show Act.put _ (some 43) _=_
         simp only [Act.put,List.setIfInBounds_toArray,List.set_cons_zero,List.set_cons_succ,i64_w,i32_w]
         rfl
        refine pure_ (i:=11) (N:=some 4) (v:=?_) (a':=?_) #[true,true,true,true,true,true,true,true,true,true,true,true] rfl rfl (any_of HT_.out (by kernel_rfl)) (fun _ _ _ h=>h) (Or.inl ⟨by rfl,?_⟩) ?_ ?_
        rotate_left
        ·intro w'
         go_simp
         with_reducible rfl
        rotate_left
        ·simp only [Act.put,List.setIfInBounds_toArray,List.set_cons_zero,List.set_cons_succ,i64_w,i32_w]
         rfl
        refine done_ (done_of HT_.out (by kernel_rfl)) ?_
        try go_wp2
        go_ret
        exact ⟨_,by first|rfl|(simp [errW_none,errW_some] <;> rfl)|(simp [*,errW_none,errW_some] <;> rfl),Kd.V_mono (Kd.R_V (by (with_reducible repeat first|apply Kd.R_alloc|apply Kd.R_drewN|apply Kd.R_drew);exact Kd.R_mono HO231.out (fun _ hk=>hk.1))) (fun k_ hk=>by first|exact ⟨(.inr (hk.1)),hk.2⟩|exact (.inr (hk))),by repeat (first|(with_reducible first|exact HB.out|apply qA|apply qN|apply q1_)|exact HB.out)⟩
       ·rw [if_neg c31] at H
        exact absurd H (by simp)
      ·rw [if_neg c28] at H
       exact absurd H (by simp)
     ·rw [if_neg c26] at H
      exact absurd H (by simp)
    ·rw [if_neg c25] at H
     exact absurd H (by simp)
end Go.Proofs.Ytghkbgmbbcaecaa.Q
namespace Go.Proofs.Ytghkbgmbbcaecaa.Q
open Go.RowKit Go.Proofs.YtghkbgmbbcaecaaW.PrintWords Go.Proofs.YtghkbgmbbcaecaaW.PrintLast Go.Proofs.YtghkbgmbbcaecaaW.PrintMore
attribute [local go_sem] run_field_23 run_field_24 run_field_31 run_field_32 run_field_35 run_field_36 isSome_setCell max2_int min2_int max_two min_two max_three min_three max_four min_four   -- for this text's walks alone
set_option linter.unusedVariables false
set_option linter.unusedSimpArgs false
def spec_l2Set.l0:Nat→List ByteArray→List ByteArray→Int→Option (List ByteArray × Bool)
  | 0,_,_,_=>none
  | k+1,x0,x4,x5=>if x5<(x0.length:Int) then (if 0≤x5 then ((spec_l2Word.f k (rdOf ByteArray.empty x0 x5)).bind fun t236=>(if t236=true then ((spec_l2Put.f k x4 (rdOf ByteArray.empty x0 x5)).bind fun t238=>(spec_l2Set.l0 k x0 t238 (wrap64 (x5+1)))) else (some ((([]:List ByteArray)),false)))) else (none)) else (some (x4,decide ((x4.length:Int)≤40)))
def spec_l2Set.f (k:Nat) (l0:List ByteArray):Option (List ByteArray × Bool):=spec_l2Set.l0 k l0 (([]:List ByteArray)) 0
set_option maxHeartbeats 8000000 in
set_option maxRecDepth 100000 in
theorem spec_l2Set.calls (k:Nat) (A0:Option Addr) (c0:Nat) (l0:List ByteArray) (r1:List ByteArray) (r2:Bool) (w:World) (hr0:Kd.C Kd.string w A0 l0.length l0) (hc0:l0.length≤c0) (h:spec_l2Set.f k l0=some (r1,r2)) :
  Calls Try.prog 32 #[.slice A0 l0.length c0] w fun e w'=>∃ v0_:Value,e=.returned (.tuple #[v0_,.bool r2])∧Kd.V Kd.string 9 w' w.heap.size (fun k_=>(w.heap.size≤k_)) v0_ r1∧Below w.heap.size w w':=by
 have HR0:=Zz.mk hr0
 have HC0:=Zz.mk hc0
 clear hr0 hc0
 have HB:=Zz.mk (Below.refl w.heap.size w)
 have H:(spec_l2Set.l0 k l0 (([]:List ByteArray)) 0)=some (r1,r2):=h
 clear h
 obtain ⟨y232,hy232⟩:∃ y_:List ByteArray,y_=(([]:List ByteArray)):=⟨_,rfl⟩
 replace H:(spec_l2Set.l0 k l0 y232 0)=some (r1,r2):=by first|(rw [hy232];with_reducible exact H)|(have H2_:=(Option.bind_some _ _).symm.trans H;rw [hy232];with_reducible exact H2_)|(have H2_:=(Option.bind_some _ _).symm.trans H;with_reducible exact H2_)|with_reducible exact H|(rw [hy232];exact H)|exact H
 have Ny232:=Zz.mk hy232
 clear hy232
 have H':=Zz.mk H
 clear H
 go_enter Try.func32,Try.ntmps32
 go_wp2_with (first|((with_reducible refine gate_dst (N:=6) rfl ?_);refine Kd.R_lit Kd.string _ 9 ?hg (N:=6) ?hd (xs:=([]:List ByteArray)) (inner:=[]) (ok:=fun _=>True) (okp:=fun _=>True) ?hr ?hp (fun _ hk=>hk) trivial (Below.refl _ _) (Nat.le_refl _) (by simp) ?_;(case hd=>rfl);(case hg=>rfl);(case hr=>first|(go_simp;done)|(go_simp;rfl));(case hp=>exact (Reps.none _ _));intro v233 w2 ho3 hb hg_ hnew_;clear hg_ hnew_;(first|rw [← Ny232.out] at ho3|(simp only [Int.reduceToNat] at ho3;rw [← Ny232.out] at ho3));have n0_:=Zz.mk (Kd.R_lower (Kd.R_newM (M:=fun k_=>(w.heap.size≤k_)) ho3 (qZ (by repeat (first|(with_reducible first|exact HB.out|apply qA|apply qN|apply q1_)|exact HB.out))) (fun k_ h_=>h_)) (qZ (by repeat (first|(with_reducible first|exact HB.out|apply qA|apply qN|apply q1_)|exact HB.out))));have n1_:=Zz.mk (qP (by repeat (first|(with_reducible first|exact HB.out|apply qA|apply qN|apply q1_)|exact HB.out)) hb);clear HB;have HO234:=n0_;have HB:=n1_;clear n0_ n1_;clear hb ho3))
 go_loopg [4,5] k (fun kq v4 v5 w'=>∃ (x4_1:List ByteArray) (x5_1:Int),v5=.int .i64 x5_1∧Zz (spec_l2Set.l0 kq l0 x4_1 x5_1=some (r1,r2))∧Zz (kq≤k)∧Zz (Kd.V Kd.string 9 w' w.heap.size (fun k_=>(w.heap.size≤k_)) v4 x4_1)∧Zz (Below w.heap.size w w'))
 case atStart=>exact ⟨(y232),(0),(by first|rfl|(simp;done)|(simp [*];done)),H',⟨Nat.le_refl _⟩,⟨Kd.R_V (by (with_reducible repeat first|apply Kd.R_alloc|apply Kd.R_drewN|apply Kd.R_drew);exact Kd.R_mono HO234.out (fun _ hk=>hk.1))⟩,⟨by repeat (first|(with_reducible first|exact HB.out|apply qA|apply qN|apply q1_)|exact HB.out)⟩⟩
 case round =>
  clear H'
  try clear p2
  try clear c3
  obtain ⟨x4_1,x5_1,rfl,HA,HK1,HO_4,HB⟩:=hrel
  cases gk with
  | zero=>exact absurd HA.out (by simp [spec_l2Set.l0])
  | succ k1 =>
   have H:=HA.out
   clear HA
   simp only [spec_l2Set.l0] at H
   by_cases c4:x5_1<(l0.length:Int)
   ·rw [if_pos c4] at H
    have c4b0:decide (x5_1<(l0.length:Int))=true:=decide_eq_true c4
    clear c4
    by_cases c5:0≤x5_1
    ·rw [if_pos c5] at H
     have c5b0:decide (0≤x5_1)=true:=decide_eq_true c5
     clear c5
     replace H:=Option.bind_eq_some_iff.mp H
     obtain ⟨t236,A60,H⟩:=H
     replace H:(if t236=true then ((spec_l2Put.f k1 x4_1 (rdOf ByteArray.empty l0 x5_1)).bind fun t238=>(spec_l2Set.l0 k1 l0 t238 (wrap64 (x5_1+1)))) else (some ((([]:List ByteArray)),false)))=some (r1,r2):=H
     have A6:=Zz.mk A60
     clear A60
     by_cases c7:t236=true
     ·subst c7
      have H1:((spec_l2Put.f k1 x4_1 (rdOf ByteArray.empty l0 x5_1)).bind fun t238=>(spec_l2Set.l0 k1 l0 t238 (wrap64 (x5_1+1))))=some (r1,r2):=by rw [if_pos rfl] at H;exact H
      clear H
      have H:=H1
      clear H1
      replace H:=Option.bind_eq_some_iff.mp H
      obtain ⟨t238,A80,H⟩:=H
      replace H:(spec_l2Set.l0 k1 l0 t238 (wrap64 (x5_1+1)))=some (r1,r2):=H
      have A8:=Zz.mk A80
      clear A80
      have H':=Zz.mk H
      clear H
      have p235:0≤(x5_1:Int):=of_decide_eq_true (by first|(with_reducible assumption)|assumption)
      have q235:x5_1<(l0.length:Int):=of_decide_eq_true (by first|(with_reducible assumption)|assumption)
      obtain ⟨ad235,e235,hx235_0⟩:=Kd.at_string HR0.out x5_1 p235 q235
      cases e235
      replace hx235_0:=(HB.out.cell (World.block_lt_of_cell? w _ hx235_0)).trans hx235_0
      replace p235:=eq_true p235
      replace q235:=eq_true q235
      go_wp2_with (first|((with_reducible refine gate_callee (f:=56) rfl ?_);refine goesL_ (some 17) rfl rfl Try.func56 (by kernel_rfl) rfl #[.string (rdOf ByteArray.empty l0 x5_1)] rfl (by (try simp only [List.map_toArray,List.map_cons,List.map_nil]);first|done|rfl|(simp only [List.length_drop,List.length_take];rfl)) ?_;(with_reducible refine (spec_l2Word.calls k1 (rdOf ByteArray.empty l0 x5_1) true _ A6.out).mono ?_);rintro e w' ⟨rfl,⟨nd,rfl⟩⟩;refine ⟨_,rfl,?_⟩;have p237:0≤(x5_1:Int):=of_decide_eq_true (by first|(with_reducible assumption)|assumption);have q237:x5_1<(l0.length:Int):=of_decide_eq_true (by first|(with_reducible assumption)|assumption);obtain ⟨ad237,e237,hx237_0⟩:=Kd.at_string HR0.out x5_1 p237 q237;obtain rfl:ad235=ad237:=(by injection e237);replace hx237_0:=(HB.out.cell (World.block_lt_of_cell? w _ hx237_0)).trans hx237_0;replace p237:=eq_true p237;replace q237:=eq_true q237;obtain ⟨Ao9,co9,eo9⟩:=Kd.V_slice HO_4.out;subst eo9)|((with_reducible refine gate_callee (f:=57) rfl ?_);refine goesL_ (some 25) rfl rfl Try.func57 (by kernel_rfl) rfl #[.slice Ao9 x4_1.length co9,.string (rdOf ByteArray.empty l0 x5_1)] rfl (by (try simp only [List.map_toArray,List.map_cons,List.map_nil]);first|done|rfl|(simp only [List.length_drop,List.length_take];rfl)) ?_;(with_reducible refine (spec_l2Put.calls k1 (fun k_=>(w.heap.size≤k_)) _ _ x4_1 (rdOf ByteArray.empty l0 x5_1) t238 _ ?side1 A8.out).mono ?_);(case side1=>exact HO_4.out);rintro e w10 ⟨v239,rfl,ho0,hb⟩;refine ⟨_,rfl,?_⟩;have n0_:=Zz.mk (Kd.V_below (by (with_reducible repeat (first|apply Kd.V_alloc|apply Kd.V_drewN|apply Kd.V_drew));exact HO_4.out) hb);have n1_:=Zz.mk (Kd.V_lower (Kd.V_mono (ok':=fun k_=>(w.heap.size≤k_)) ho0 (fun k_ hk_=>Or.elim hk_ (fun hs_=>hs_) (fun hn_=>(Nat.le_trans (qZ (by repeat (first|(with_reducible first|exact HB.out|apply qA|apply qN|apply q1_)|exact HB.out))) hn_)))) (qZ (by repeat (first|(with_reducible first|exact HB.out|apply qA|apply qN|apply q1_)|exact HB.out))));have n2_:=Zz.mk (qP (by repeat (first|(with_reducible first|exact HB.out|apply qA|apply qN|apply q1_)|exact HB.out)) hb);clear HO_4;clear HB;have HO_4:=n0_;have HO240:=n1_;have HB:=n2_;clear n0_ n1_ n2_;(try clear hb);(try clear hb2);(try clear hk);(try clear hi);(try clear ho0)))
      go_roundg k1
      case measure=>have:=HK1.out;omega
      case rel=>exact ⟨(t238),(wrap64 (x5_1+1)),(by first|rfl|(simp;done)|(simp [*];done)),H',⟨by have:=HK1.out;omega⟩,⟨by (with_reducible repeat (first|apply Kd.V_alloc|apply Kd.V_drewN|apply Kd.V_drew));exact HO240.out⟩,⟨by repeat (first|(with_reducible first|exact HB.out|apply qA|apply qN|apply q1_)|exact HB.out)⟩⟩
     ·replace c7:=Bool.eq_false_iff.mpr c7
      subst c7
      have H1:(some ((([]:List ByteArray)),false))=some (r1,r2):=by rw [if_neg (show ¬ (false=true) by decide)] at H;exact H
      clear H
      have H:=H1
      clear H1
      obtain ⟨y241,hy241⟩:∃ y_:List ByteArray,y_=(([]:List ByteArray)):=⟨_,rfl⟩
      replace H:(some (y241,false))=some (r1,r2):=by first|(rw [hy241];with_reducible exact H)|(have H2_:=(Option.bind_some _ _).symm.trans H;rw [hy241];with_reducible exact H2_)|(have H2_:=(Option.bind_some _ _).symm.trans H;with_reducible exact H2_)|with_reducible exact H|(rw [hy241];exact H)|exact H
      have Ny241:=Zz.mk hy241
      clear hy241
      simp only [Option.some.injEq,Prod.mk.injEq] at H
      obtain ⟨rfl,rfl⟩:=H
      have p235:0≤(x5_1:Int):=of_decide_eq_true (by first|(with_reducible assumption)|assumption)
      have q235:x5_1<(l0.length:Int):=of_decide_eq_true (by first|(with_reducible assumption)|assumption)
      obtain ⟨ad235,e235,hx235_0⟩:=Kd.at_string HR0.out x5_1 p235 q235
      cases e235
      replace hx235_0:=(HB.out.cell (World.block_lt_of_cell? w _ hx235_0)).trans hx235_0
      replace p235:=eq_true p235
      replace q235:=eq_true q235
      go_wp2_with (first|((with_reducible refine gate_callee (f:=56) rfl ?_);refine goesL_ (some 17) rfl rfl Try.func56 (by kernel_rfl) rfl #[.string (rdOf ByteArray.empty l0 x5_1)] rfl (by (try simp only [List.map_toArray,List.map_cons,List.map_nil]);first|done|rfl|(simp only [List.length_drop,List.length_take];rfl)) ?_;(with_reducible refine (spec_l2Word.calls k1 (rdOf ByteArray.empty l0 x5_1) false _ A6.out).mono ?_);rintro e w' ⟨rfl,⟨nd,rfl⟩⟩;refine ⟨_,rfl,?_⟩)|((with_reducible refine gate_dst (N:=19) rfl ?_);refine Kd.R_lit Kd.string _ 9 ?hg (N:=19) ?hd (xs:=([]:List ByteArray)) (inner:=[]) (ok:=fun _=>True) (okp:=fun _=>True) ?hr ?hp (fun _ hk=>hk) trivial (Below.refl _ _) (Nat.le_refl _) (by simp) ?_;(case hd=>rfl);(case hg=>rfl);(case hr=>first|(go_simp;done)|(go_simp;rfl));(case hp=>exact (Reps.none _ _));intro v242 w11 ho12 hb hg_ hnew_;clear hg_ hnew_;(first|rw [← Ny241.out] at ho12|(simp only [Int.reduceToNat] at ho12;rw [← Ny241.out] at ho12));have n0_:=Zz.mk (Kd.V_elder' (by (with_reducible repeat (first|apply Kd.V_alloc|apply Kd.V_drewN|apply Kd.V_drew));exact HO_4.out) (Kd.R_base ho12) hb);have n1_:=Zz.mk (Kd.R_lower (Kd.R_newM (M:=fun k_=>(w.heap.size≤k_)) ho12 (qZ (by repeat (first|(with_reducible first|exact HB.out|apply qA|apply qN|apply q1_)|exact HB.out))) (fun k_ h_=>h_)) (qZ (by repeat (first|(with_reducible first|exact HB.out|apply qA|apply qN|apply q1_)|exact HB.out))));have n2_:=Zz.mk (qP (by repeat (first|(with_reducible first|exact HB.out|apply qA|apply qN|apply q1_)|exact HB.out)) hb);clear HO_4;clear HB;have HO_4:=n0_;have HO243:=n1_;have HB:=n2_;clear n0_ n1_ n2_;clear hb ho12))
      go_ret2
      exact ⟨_,by first|rfl|(simp [errW_none,errW_some] <;> rfl)|(simp [*,errW_none,errW_some] <;> rfl),Kd.R_V (by (with_reducible repeat first|apply Kd.R_alloc|apply Kd.R_drewN|apply Kd.R_drew);exact Kd.R_mono HO243.out (fun _ hk=>hk.1)),by repeat (first|(with_reducible first|exact HB.out|apply qA|apply qN|apply q1_)|exact HB.out)⟩
    ·rw [if_neg c5] at H
     exact absurd H (by simp)
   ·rw [if_neg c4] at H
    have c4b0:decide (x5_1<(l0.length:Int))=false:=decide_eq_false c4
    clear c4
    simp only [Option.some.injEq,Prod.mk.injEq] at H
    obtain ⟨rfl,rfl⟩:=H
    obtain ⟨Ao13,co13,eo13⟩:=Kd.V_slice HO_4.out
    subst eo13
    go_wp2
    go_ret2
    exact ⟨_,by first|rfl|(simp [errW_none,errW_some] <;> rfl)|(simp [*,errW_none,errW_some] <;> rfl),by (with_reducible repeat (first|apply Kd.V_alloc|apply Kd.V_drewN|apply Kd.V_drew));exact HO_4.out,by repeat (first|(with_reducible first|exact HB.out|apply qA|apply qN|apply q1_)|exact HB.out)⟩
def spec_l2Has.l0:Nat→List ByteArray→ByteArray→Int→Option (Bool)
 | 0,_,_,_=>none
 | k+1,x0,x1,x5=>if x5<(x0.length:Int) then (if 0≤x5 then (if (rdOf ByteArray.empty x0 x5).toList=x1.toList then (some true) else (spec_l2Has.l0 k x0 x1 (wrap64 (x5+1)))) else (none)) else (some false)
def spec_l2Has.f (k:Nat) (l0:List ByteArray) (a1:ByteArray):Option (Bool):=spec_l2Has.l0 k l0 a1 0
set_option maxHeartbeats 8000000 in
set_option maxRecDepth 100000 in
theorem spec_l2Has.calls (k:Nat) (A0:Option Addr) (c0:Nat) (l0:List ByteArray) (a1:ByteArray) (r:Bool) (w:World) (hr0:Kd.C Kd.string w A0 l0.length l0) (hc0:l0.length≤c0) (h:spec_l2Has.f k l0 a1=some r) :
  Calls Try.prog 58 #[.slice A0 l0.length c0,.string a1] w fun e w'=>e=.returned (.bool r)∧Drawn0 w w':=by
 have HR0:=Zz.mk hr0
 have HC0:=Zz.mk hc0
 clear hr0 hc0
 have H:(spec_l2Has.l0 k l0 a1 0)=some r:=h
 clear h
 have H':=Zz.mk H
 clear H
 go_enter Try.func58,Try.ntmps58
 go_wp2
 go_loopg [5] k (fun kq v5 w'=>∃ (x5_1:Int),v5=.int .i64 x5_1∧Zz (spec_l2Has.l0 kq l0 a1 x5_1=some r)∧Zz (kq≤k)∧Drawn0 w w')
 case atStart=>exact ⟨(0),(by first|rfl|(simp;done)|(simp [*];done)),H',⟨Nat.le_refl _⟩,by repeat (first|exact Drawn0.refl _|apply Drawn0.step)⟩
 case round =>
  clear H'
  try clear p2
  obtain ⟨x5_1,rfl,HA,HK1,⟨m1,rfl⟩⟩:=hrel
  cases gk with
  | zero=>exact absurd HA.out (by simp [spec_l2Has.l0])
  | succ k1 =>
   have H:=HA.out
   clear HA
   simp only [spec_l2Has.l0] at H
   by_cases c3:x5_1<(l0.length:Int)
   ·rw [if_pos c3] at H
    have c3b0:decide (x5_1<(l0.length:Int))=true:=decide_eq_true c3
    clear c3
    by_cases c4:0≤x5_1
    ·rw [if_pos c4] at H
     have c4b0:decide (0≤x5_1)=true:=decide_eq_true c4
     clear c4
     by_cases c5:(rdOf ByteArray.empty l0 x5_1).toList=a1.toList
     ·rw [if_pos c5] at H
      have c5b0:((rdOf ByteArray.empty l0 x5_1).toList == a1.toList)=true:=beq_iff_eq.mpr c5
      have c5b1:((rdOf ByteArray.empty l0 x5_1).toList != a1.toList)=false:=bne_eq_false_iff_eq.mpr c5
      clear c5
      obtain rfl:=Option.some.inj H
      have p244:0≤(x5_1:Int):=of_decide_eq_true (by first|(with_reducible assumption)|assumption)
      have q244:x5_1<(l0.length:Int):=of_decide_eq_true (by first|(with_reducible assumption)|assumption)
      obtain ⟨ad244,e244,hx244_0⟩:=Kd.at_string HR0.out x5_1 p244 q244
      cases e244
      replace p244:=eq_true p244
      replace q244:=eq_true q244
      go_wp2
      go_ret
      exact ⟨by first|rfl|(simp;done)|(simp [*];done),by repeat (first|exact Drawn0.refl _|apply Drawn0.step)⟩
     ·rw [if_neg c5] at H
      have c5b0:((rdOf ByteArray.empty l0 x5_1).toList == a1.toList)=false:=beq_eq_false_iff_ne.mpr c5
      have c5b1:((rdOf ByteArray.empty l0 x5_1).toList != a1.toList)=true:=bne_iff_ne.mpr c5
      have H':=Zz.mk H
      clear H
      have p244:0≤(x5_1:Int):=of_decide_eq_true (by first|(with_reducible assumption)|assumption)
      have q244:x5_1<(l0.length:Int):=of_decide_eq_true (by first|(with_reducible assumption)|assumption)
      obtain ⟨ad244,e244,hx244_0⟩:=Kd.at_string HR0.out x5_1 p244 q244
      cases e244
      replace p244:=eq_true p244
      replace q244:=eq_true q244
      go_wp2
      go_roundg k1
      case measure=>have:=HK1.out;omega
      case rel=>exact ⟨(wrap64 (x5_1+1)),(by first|rfl|(simp;done)|(simp [*];done)),H',⟨by have:=HK1.out;omega⟩,by repeat (first|exact Drawn0.refl _|apply Drawn0.step)⟩
    ·rw [if_neg c4] at H
     exact absurd H (by simp)
   ·rw [if_neg c3] at H
    have c3b0:decide (x5_1<(l0.length:Int))=false:=decide_eq_false c3
    clear c3
    obtain rfl:=Option.some.inj H
    go_wp2
    go_ret
    exact ⟨by first|rfl|(simp;done)|(simp [*];done),by repeat (first|exact Drawn0.refl _|apply Drawn0.step)⟩
def spec_l2Place.l0:Nat→List ByteArray→ByteArray→Int→Option (Int)
 | 0,_,_,_=>none
 | k+1,x0,x1,x5=>if x5<(x0.length:Int) then (if 0≤x5 then (if (rdOf ByteArray.empty x0 x5).toList=x1.toList then (some x5) else (spec_l2Place.l0 k x0 x1 (wrap64 (x5+1)))) else (none)) else (some (-1))
def spec_l2Place.f (k:Nat) (l0:List ByteArray) (a1:ByteArray):Option (Int):=spec_l2Place.l0 k l0 a1 0
set_option maxHeartbeats 8000000 in
set_option maxRecDepth 100000 in
theorem spec_l2Place.calls (k:Nat) (A0:Option Addr) (c0:Nat) (l0:List ByteArray) (a1:ByteArray) (r:Int) (w:World) (hr0:Kd.C Kd.string w A0 l0.length l0) (hc0:l0.length≤c0) (h:spec_l2Place.f k l0 a1=some r) :
  Calls Try.prog 59 #[.slice A0 l0.length c0,.string a1] w fun e w'=>e=.returned (.int .i64 r)∧Drawn0 w w':=by
 have HR0:=Zz.mk hr0
 have HC0:=Zz.mk hc0
 clear hr0 hc0
 have H:(spec_l2Place.l0 k l0 a1 0)=some r:=h
 clear h
 have H':=Zz.mk H
 clear H
 go_enter Try.func59,Try.ntmps59
 go_wp2
 go_loopg [5] k (fun kq v5 w'=>∃ (x5_1:Int),v5=.int .i64 x5_1∧Zz (spec_l2Place.l0 kq l0 a1 x5_1=some r)∧Zz (kq≤k)∧Drawn0 w w')
 case atStart=>exact ⟨(0),(by first|rfl|(simp;done)|(simp [*];done)),H',⟨Nat.le_refl _⟩,by repeat (first|exact Drawn0.refl _|apply Drawn0.step)⟩
 case round =>
  clear H'
  try clear p2
  obtain ⟨x5_1,rfl,HA,HK1,⟨m1,rfl⟩⟩:=hrel
  cases gk with
  | zero=>exact absurd HA.out (by simp [spec_l2Place.l0])
  | succ k1 =>
   have H:=HA.out
   clear HA
   simp only [spec_l2Place.l0] at H
   by_cases c3:x5_1<(l0.length:Int)
   ·rw [if_pos c3] at H
    have c3b0:decide (x5_1<(l0.length:Int))=true:=decide_eq_true c3
    clear c3
    by_cases c4:0≤x5_1
    ·rw [if_pos c4] at H
     have c4b0:decide (0≤x5_1)=true:=decide_eq_true c4
     clear c4
     by_cases c5:(rdOf ByteArray.empty l0 x5_1).toList=a1.toList
     ·rw [if_pos c5] at H
      have c5b0:((rdOf ByteArray.empty l0 x5_1).toList == a1.toList)=true:=beq_iff_eq.mpr c5
      have c5b1:((rdOf ByteArray.empty l0 x5_1).toList != a1.toList)=false:=bne_eq_false_iff_eq.mpr c5
      clear c5
      obtain rfl:=Option.some.inj H
      have p245:0≤(x5_1:Int):=of_decide_eq_true (by first|(with_reducible assumption)|assumption)
      have q245:x5_1<(l0.length:Int):=of_decide_eq_true (by first|(with_reducible assumption)|assumption)
      obtain ⟨ad245,e245,hx245_0⟩:=Kd.at_string HR0.out x5_1 p245 q245
      cases e245
      replace p245:=eq_true p245
      replace q245:=eq_true q245
      go_wp2
      go_ret
      exact ⟨by first|rfl|(simp;done)|(simp [*];done),by repeat (first|exact Drawn0.refl _|apply Drawn0.step)⟩
     ·rw [if_neg c5] at H
      have c5b0:((rdOf ByteArray.empty l0 x5_1).toList == a1.toList)=false:=beq_eq_false_iff_ne.mpr c5
      have c5b1:((rdOf ByteArray.empty l0 x5_1).toList != a1.toList)=true:=bne_iff_ne.mpr c5
      have H':=Zz.mk H
      clear H
      have p245:0≤(x5_1:Int):=of_decide_eq_true (by first|(with_reducible assumption)|assumption)
      have q245:x5_1<(l0.length:Int):=of_decide_eq_true (by first|(with_reducible assumption)|assumption)
      obtain ⟨ad245,e245,hx245_0⟩:=Kd.at_string HR0.out x5_1 p245 q245
      cases e245
      replace p245:=eq_true p245
      replace q245:=eq_true q245
      go_wp2
      go_roundg k1
      case measure=>have:=HK1.out;omega
      case rel=>exact ⟨(wrap64 (x5_1+1)),(by first|rfl|(simp;done)|(simp [*];done)),H',⟨by have:=HK1.out;omega⟩,by repeat (first|exact Drawn0.refl _|apply Drawn0.step)⟩
    ·rw [if_neg c4] at H
     exact absurd H (by simp)
   ·rw [if_neg c3] at H
    have c3b0:decide (x5_1<(l0.length:Int))=false:=decide_eq_false c3
    clear c3
    obtain rfl:=Option.some.inj H
    go_wp2
    go_ret
    exact ⟨by first|rfl|(simp;done)|(simp [*];done),by repeat (first|exact Drawn0.refl _|apply Drawn0.step)⟩
mutual
def spec_l2Of.l0:Nat→List ByteArray→List ByteArray→Int→Option ((List (S62)))
 | 0,_,_,_=>none
 | k+1,x0,x3,x4=>if x4<(x0.length:Int) then (spec_l2Of.l1 k x0 x3 x4 1) else (spec_l2Of.l2 k x0 x3 0 (([]:List (S62))))
def spec_l2Of.l1:Nat→List ByteArray→List ByteArray→Int→Int→Option ((List (S62)))
 | 0,_,_,_,_=>none
 | k+1,x0,x3,x4,x5=>if 0≤x4 then (if x4<(x0.length:Int) then (if x5≤((rdOf ByteArray.empty x0 x4).size:Int) then (if 0≤x5 then ((spec_l2Put.f k x3 ((rdOf ByteArray.empty x0 x4).extract 0 (x5:Int).toNat)).bind fun t252=>(spec_l2Of.l1 k x0 t252 x4 (wrap64 (x5+1)))) else (none)) else (spec_l2Of.l0 k x0 x3 (wrap64 (x4+1)))) else (none)) else (none)
def spec_l2Of.l2:Nat→List ByteArray→List ByteArray→Int→List (S62)→Option ((List (S62)))
 | 0,_,_,_,_=>none
 | k+1,x0,x3,x7,x259000=>if x7<(x3.length:Int) then (if 0≤x7 then ((spec_l2Has.f k x0 (rdOf ByteArray.empty x3 x7)).bind fun t260=>(if x7 > 0 then (if 0≤(wrap64 (((rdOf ByteArray.empty x3 x7).size:Int) - 1)) then (if (wrap64 (((rdOf ByteArray.empty x3 x7).size:Int) - 1))<((rdOf ByteArray.empty x3 x7).size:Int) then (if (wrap64 (((rdOf ByteArray.empty x3 x7).size:Int) - 1))≤((rdOf ByteArray.empty x3 x7).size:Int) then ((spec_l2Place.f k x3 ((rdOf ByteArray.empty x3 x7).extract 0 ((wrap64 (((rdOf ByteArray.empty x3 x7).size:Int) - 1)):Int).toNat)).bind fun t262=>(if x259000.length<5864062014805 then (spec_l2Of.l2 k x0 x3 (wrap64 (x7+1)) (x259000 ++ [(⟨((bt (rdOf ByteArray.empty x3 x7) (wrap64 (((rdOf ByteArray.empty x3 x7).size:Int) - 1))) - 97) % 256,t262,t260⟩:S62)])) else (none))) else (none)) else (none)) else (none)) else (if x259000.length<5864062014805 then (spec_l2Of.l2 k x0 x3 (wrap64 (x7+1)) (x259000 ++ [(⟨(-1),(-1),t260⟩:S62)])) else (none)))) else (none)) else (some x259000)
end
def spec_l2Of.f (k:Nat) (l0:List ByteArray):Option ((List (S62))):=spec_l2Of.l0 k l0 (([(⟨#[]⟩:ByteArray)]:List ByteArray)) 0
set_option maxHeartbeats 8000000 in
set_option maxRecDepth 100000 in
theorem spec_l2Of.calls (k:Nat) (A0:Option Addr) (c0:Nat) (l0:List ByteArray) (r:List (S62)) (w:World) (hr0:Kd.C Kd.string w A0 l0.length l0) (hc0:l0.length≤c0) (h:spec_l2Of.f k l0=some r) :
  Calls Try.prog 33 #[.slice A0 l0.length c0] w fun e w'=>∃ v0_:Value,e=.returned (.agg #[v0_])∧Kd.R k62 62 w' w.heap.size (fun _=>True) v0_ r∧Below w.heap.size w w':=by
 have hu24:=Try.underlying24
 have hu62:=Try.underlying62
 have HR0:=Zz.mk hr0
 have HC0:=Zz.mk hc0
 clear hr0 hc0
 have HB:=Zz.mk (Below.refl w.heap.size w)
 have H:(spec_l2Of.l0 k l0 (([(⟨#[]⟩:ByteArray)]:List ByteArray)) 0)=some r:=h
 clear h
 obtain ⟨y247,hy247⟩:∃ y_:List ByteArray,y_=(([(⟨#[]⟩:ByteArray)]:List ByteArray)):=⟨_,rfl⟩
 replace H:(spec_l2Of.l0 k l0 y247 0)=some r:=by first|(rw [hy247];with_reducible exact H)|(have H2_:=(Option.bind_some _ _).symm.trans H;rw [hy247];with_reducible exact H2_)|(have H2_:=(Option.bind_some _ _).symm.trans H;with_reducible exact H2_)|with_reducible exact H|(rw [hy247];exact H)|exact H
 have Ny247:=Zz.mk hy247
 clear hy247
 have H':=Zz.mk H
 clear H
 go_enter Try.func33,Try.ntmps33
 go_wp2_with (first|((with_reducible refine gate_dst (N:=2) rfl ?_);refine box_event ?hg (N:=2) ?hd (cs:=#[.slice none 0 0]) (t:=24) ?hr ?_;(case hd=>rfl);(case hg=>rfl);(case hr=>first|(go_simp;done)|(go_simp;rfl));intro gb246 hg w2 hbox hb;have n0_:=Zz.mk (qP (by repeat (first|(with_reducible first|exact HB.out|apply qA|apply qN|apply q1_)|exact HB.out)) hb);have n1_:=Zz.mk (hbox);have n2_:=Zz.mk ((by rw [hg];exact (qZ (by repeat (first|(with_reducible first|exact HB.out|apply qA|apply qN|apply q1_)|exact HB.out))):w.heap.size≤gb246));have n3_:=Zz.mk ((by rw [hg];exact (qZ (by repeat (first|(with_reducible first|exact HB.out|apply qA|apply qN|apply q1_)|exact HB.out))):w.heap.size≤gb246));clear HB;have HB:=n0_;have BK246:=n1_;have GW246:=n2_;have GE246:=n3_;clear n0_ n1_ n2_ n3_;clear hb hbox hg)|((with_reducible refine gate_dst (N:=10) rfl ?_);refine Kd.R_lit Kd.string _ 9 ?hg (N:=10) ?hd (xs:=([(⟨#[]⟩:ByteArray)]:List ByteArray)) (inner:=[.string (⟨#[]⟩:ByteArray)]) (ok:=fun _=>True) (okp:=fun _=>True) ?hr ?hp (fun _ hk=>hk) trivial (Below.refl _ _) (Nat.le_refl _) (by simp) ?_;(case hd=>rfl);(case hg=>rfl);(case hr=>first|(go_simp;done)|(go_simp;rfl));(case hp=>exact (Reps.one (show Kd.M Kd.string _ _ _ (⟨#[]⟩:ByteArray) [.string (⟨#[]⟩:ByteArray)] from rfl) (Reps.none _ _)));intro v248 w3 ho4 hb hg_ hnew_;clear hg_ hnew_;(first|rw [← Ny247.out] at ho4|(simp only [Int.reduceToNat] at ho4;rw [← Ny247.out] at ho4));have n0_:=Zz.mk (Kd.R_lower ho4 (qZ (by repeat (first|(with_reducible first|exact HB.out|apply qA|apply qN|apply q1_|refine qS ?_ GE246.out)|exact HB.out))));have n1_:=Zz.mk (bB (g:=gb246) (o:=.cells #[.slice none 0 0] 24 (0,0)) (by (with_reducible repeat first|apply bN|apply bD|apply bA);exact BK246.out) hb);have n2_:=Zz.mk (qP (by repeat (first|(with_reducible first|exact HB.out|apply qA|apply qN|apply q1_|refine qS ?_ GE246.out)|exact HB.out)) hb);clear BK246;clear HB;have HO249:=n0_;have BK246:=n1_;have HB:=n2_;clear n0_ n1_ n2_;clear hb ho4))
 go_loopg [3,4] k (fun kq v3 v4 w'=>∃ (x3_1:List ByteArray) (x4_1:Int),v4=.int .i64 x4_1∧Zz (spec_l2Of.l0 kq l0 x3_1 x4_1=some r)∧Zz (kq≤k)∧Zz (Kd.V Kd.string 9 w' w.heap.size (fun k_=>k_ ≠ gb246) v3 x3_1)∧Zz (w'.heap[gb246]?=some (.cells #[(.slice none 0 0)] 24 (0,0)))∧Zz (Below w.heap.size w w'))
 case atStart=>exact ⟨(y247),(0),(by first|rfl|(simp;done)|(simp [*];done)),H',⟨Nat.le_refl _⟩,⟨Kd.R_V (by (with_reducible repeat first|apply Kd.R_alloc|apply Kd.R_drewN|apply Kd.R_drew);exact Kd.R_mono (Kd.R_types HO249.out BK246.out (by decide)) (fun _ hk=>hk.2))⟩,⟨by (with_reducible repeat first|apply bN|apply bD|apply bA);exact BK246.out⟩,⟨by repeat (first|(with_reducible first|exact HB.out|apply qA|apply qN|apply q1_|refine qS ?_ GE246.out)|exact HB.out)⟩⟩
 case round =>
  clear H'
  try clear p2
  try clear c3
  obtain ⟨x3_1,x4_1,rfl,HA,HK1,HO_3,BK246,HB⟩:=hrel
  cases gk with
  | zero=>exact absurd HA.out (by simp [spec_l2Of.l0])
  | succ k1 =>
   have H:=HA.out
   clear HA
   simp only [spec_l2Of.l0] at H
   by_cases c5:x4_1<(l0.length:Int)
   ·rw [if_pos c5] at H
    have c5b0:decide (x4_1<(l0.length:Int))=true:=decide_eq_true c5
    clear c5
    have H':=Zz.mk H
    clear H
    go_wp2
    go_loopg [3,5] k1 (fun kq v3 v5 w'=>∃ (x3_2:List ByteArray) (x5_2:Int),v5=.int .i64 x5_2∧Zz (spec_l2Of.l1 kq l0 x3_2 x4_1 x5_2=some r)∧Zz (kq≤k1)∧Zz (Kd.V Kd.string 9 w' w.heap.size (fun k_=>k_ ≠ gb246) v3 x3_2)∧Zz (w'.heap[gb246]?=some (.cells #[(.slice none 0 0)] 24 (0,0)))∧Zz (Below w.heap.size w w'))
    case atStart=>exact ⟨(x3_1),(1),(by first|rfl|(simp;done)|(simp [*];done)),H',⟨Nat.le_refl _⟩,⟨by (with_reducible repeat (first|apply Kd.V_alloc|apply Kd.V_drewN|apply Kd.V_drew));exact HO_3.out⟩,⟨by (with_reducible repeat first|apply bN|apply bD|apply bA);exact BK246.out⟩,⟨by repeat (first|(with_reducible first|exact HB.out|apply qA|apply qN|apply q1_|refine qS ?_ GE246.out)|exact HB.out)⟩⟩
    case round =>
     clear H'
     try clear p2
     try clear c3
     try clear c5
     try clear c5b0
     try clear p2
     obtain ⟨x3_2,x5_2,rfl,HA,HK2,HO_3,BK246,HB⟩:=hrel
     cases gk with
     | zero=>exact absurd HA.out (by simp [spec_l2Of.l1])
     | succ k2 =>
      have H:=HA.out
      clear HA
      simp only [spec_l2Of.l1] at H
      by_cases c6:0≤x4_1
      ·rw [if_pos c6] at H
       have c6b0:decide (0≤x4_1)=true:=decide_eq_true c6
       clear c6
       by_cases c7:x4_1<(l0.length:Int)
       ·rw [if_pos c7] at H
        have c7b0:decide (x4_1<(l0.length:Int))=true:=decide_eq_true c7
        clear c7
        by_cases c8:x5_2≤((rdOf ByteArray.empty l0 x4_1).size:Int)
        ·rw [if_pos c8] at H
         have c8b0:decide (x5_2≤((rdOf ByteArray.empty l0 x4_1).size:Int))=true:=decide_eq_true c8
         clear c8
         by_cases c9:0≤x5_2
         ·rw [if_pos c9] at H
          have c9b0:=eq_true c9
          have c9b1:decide (0≤x5_2)=true:=decide_eq_true c9
          clear c9
          have c10b0:=eq_true (of_decide_eq_true (by first|(with_reducible assumption)|assumption):x5_2≤((rdOf ByteArray.empty l0 x4_1).size:Int))
          replace H:=Option.bind_eq_some_iff.mp H
          obtain ⟨t252,A110,H⟩:=H
          replace H:(spec_l2Of.l1 k2 l0 t252 x4_1 (wrap64 (x5_2+1)))=some r:=H
          have A11:=Zz.mk A110
          clear A110
          have H':=Zz.mk H
          clear H
          have p250:0≤(x4_1:Int):=of_decide_eq_true (by first|(with_reducible assumption)|assumption)
          have q250:x4_1<(l0.length:Int):=of_decide_eq_true (by first|(with_reducible assumption)|assumption)
          obtain ⟨ad250,e250,hx250_0⟩:=Kd.at_string HR0.out x4_1 p250 q250
          cases e250
          replace hx250_0:=(HB.out.cell (World.block_lt_of_cell? w _ hx250_0)).trans hx250_0
          replace p250:=eq_true p250
          replace q250:=eq_true q250
          have p251:0≤(x4_1:Int):=of_decide_eq_true (by first|(with_reducible assumption)|assumption)
          have q251:x4_1<(l0.length:Int):=of_decide_eq_true (by first|(with_reducible assumption)|assumption)
          obtain ⟨ad251,e251,hx251_0⟩:=Kd.at_string HR0.out x4_1 p251 q251
          obtain rfl:ad250=ad251:=(by injection e251)
          replace hx251_0:=(HB.out.cell (World.block_lt_of_cell? w _ hx251_0)).trans hx251_0
          replace p251:=eq_true p251
          replace q251:=eq_true q251
          obtain ⟨Ao12,co12,eo12⟩:=Kd.V_slice HO_3.out
          subst eo12
          go_wp2_with (first|((with_reducible refine gate_callee (f:=57) rfl ?_);refine goesL_ (some 33) rfl rfl Try.func57 (by kernel_rfl) rfl #[.slice Ao12 x3_2.length co12,.string ((rdOf ByteArray.empty l0 x4_1).extract 0 (x5_2:Int).toNat)] rfl (by (try simp only [List.map_toArray,List.map_cons,List.map_nil]);first|done|rfl|(simp only [List.length_drop,List.length_take];rfl)) ?_;(with_reducible refine (spec_l2Put.calls k2 (fun k_=>k_ ≠ gb246) _ _ x3_2 ((rdOf ByteArray.empty l0 x4_1).extract 0 (x5_2:Int).toNat) t252 _ ?side1 A11.out).mono ?_);(case side1=>exact HO_3.out);rintro e w13 ⟨v253,rfl,ho0,hb⟩;refine ⟨_,rfl,?_⟩;have n0_:=Zz.mk (Kd.V_below (by (with_reducible repeat (first|apply Kd.V_alloc|apply Kd.V_drewN|apply Kd.V_drew));exact HO_3.out) hb);have n1_:=Zz.mk (Kd.V_lower (Kd.V_mono (ok':=fun k_=>k_ ≠ gb246) ho0 (fun k_ hk_=>Or.elim hk_ (fun hs_=>hs_) (fun hn_=>(Kd.freshB (g:=gb246) (o:=.cells #[.slice none 0 0] 24 (0,0)) (by (with_reducible repeat first|apply bN|apply bD|apply bA);exact BK246.out) k_ hn_)))) (qZ (by repeat (first|(with_reducible first|exact HB.out|apply qA|apply qN|apply q1_|refine qS ?_ GE246.out)|exact HB.out))));have n2_:=Zz.mk (bB (g:=gb246) (o:=.cells #[.slice none 0 0] 24 (0,0)) (by (with_reducible repeat first|apply bN|apply bD|apply bA);exact BK246.out) hb);have n3_:=Zz.mk (qP (by repeat (first|(with_reducible first|exact HB.out|apply qA|apply qN|apply q1_|refine qS ?_ GE246.out)|exact HB.out)) hb);clear HO_3;clear BK246;clear HB;have HO_3:=n0_;have HO254:=n1_;have BK246:=n2_;have HB:=n3_;clear n0_ n1_ n2_ n3_;(try clear hb);(try clear hb2);(try clear hk);(try clear hi);(try clear ho0)))
          go_roundg k2
          case measure=>have:=HK1.out;have:=HK2.out;omega
          case rel=>exact ⟨(t252),(wrap64 (x5_2+1)),(by first|rfl|(simp;done)|(simp [*];done)),H',⟨by have:=HK1.out;have:=HK2.out;omega⟩,⟨by (with_reducible repeat (first|apply Kd.V_alloc|apply Kd.V_drewN|apply Kd.V_drew));exact HO254.out⟩,⟨by (with_reducible repeat first|apply bN|apply bD|apply bA);exact BK246.out⟩,⟨by repeat (first|(with_reducible first|exact HB.out|apply qA|apply qN|apply q1_|refine qS ?_ GE246.out)|exact HB.out)⟩⟩
         ·rw [if_neg c9] at H
          exact absurd H (by simp)
        ·rw [if_neg c8] at H
         have c8b0:decide (x5_2≤((rdOf ByteArray.empty l0 x4_1).size:Int))=false:=decide_eq_false c8
         clear c8
         have H':=Zz.mk H
         clear H
         have p250:0≤(x4_1:Int):=of_decide_eq_true (by first|(with_reducible assumption)|assumption)
         have q250:x4_1<(l0.length:Int):=of_decide_eq_true (by first|(with_reducible assumption)|assumption)
         obtain ⟨ad250,e250,hx250_0⟩:=Kd.at_string HR0.out x4_1 p250 q250
         cases e250
         replace hx250_0:=(HB.out.cell (World.block_lt_of_cell? w _ hx250_0)).trans hx250_0
         replace p250:=eq_true p250
         replace q250:=eq_true q250
         go_wp2
         go_roundg k2
         case measure=>have:=HK1.out;have:=HK2.out;omega
         case rel=>exact ⟨(x3_2),(wrap64 (x4_1+1)),(by first|rfl|(simp;done)|(simp [*];done)),H',⟨by have:=HK1.out;have:=HK2.out;omega⟩,⟨by (with_reducible repeat (first|apply Kd.V_alloc|apply Kd.V_drewN|apply Kd.V_drew));exact HO_3.out⟩,⟨by (with_reducible repeat first|apply bN|apply bD|apply bA);exact BK246.out⟩,⟨by repeat (first|(with_reducible first|exact HB.out|apply qA|apply qN|apply q1_|refine qS ?_ GE246.out)|exact HB.out)⟩⟩
       ·rw [if_neg c7] at H
        exact absurd H (by simp)
      ·rw [if_neg c6] at H
       exact absurd H (by simp)
   ·rw [if_neg c5] at H
    have c5b0:decide (x4_1<(l0.length:Int))=false:=decide_eq_false c5
    clear c5
    obtain ⟨y255,hy255⟩:∃ y_:List (S62),y_=(([]:List (S62))):=⟨_,rfl⟩
    replace H:(spec_l2Of.l2 k1 l0 x3_1 0 y255)=some r:=by first|(rw [hy255];with_reducible exact H)|(have H2_:=(Option.bind_some _ _).symm.trans H;rw [hy255];with_reducible exact H2_)|(have H2_:=(Option.bind_some _ _).symm.trans H;with_reducible exact H2_)|with_reducible exact H|(rw [hy255];exact H)|exact H
    have Ny255:=Zz.mk hy255
    clear hy255
    have H':=Zz.mk H
    clear H
    go_wp2_with (first|((with_reducible refine gate_dst (N:=34) rfl ?_);refine Kd.R_lit k62 _ 62 ?hg (N:=34) ?hd (xs:=([]:List (S62))) (inner:=[]) (ok:=fun _=>True) (okp:=fun _=>True) ?hr ?hp (fun _ hk=>hk) trivial (Below.refl _ _) (Nat.le_refl _) (by simp) ?_;(case hd=>rfl);(case hg=>rfl);(case hr=>first|(go_simp;done)|(go_simp;rfl));(case hp=>exact (Reps.none _ _));intro v256 w14 ho15 hb hg_ hnew_;clear hg_ hnew_;(first|rw [← Ny255.out] at ho15|(simp only [Int.reduceToNat] at ho15;rw [← Ny255.out] at ho15));have n0_:=Zz.mk (Kd.V_elder' (by (with_reducible repeat (first|apply Kd.V_alloc|apply Kd.V_drewN|apply Kd.V_drew));exact HO_3.out) (Kd.R_base ho15) hb);have n1_:=Zz.mk (Kd.R_lower ho15 (qZ (by repeat (first|(with_reducible first|exact HB.out|apply qA|apply qN|apply q1_|refine qS ?_ GE246.out)|exact HB.out))));have n2_:=Zz.mk (bB (g:=gb246) (o:=.cells #[.slice none 0 0] 24 (0,0)) (by (with_reducible repeat first|apply bN|apply bD|apply bA);exact BK246.out) hb);have n3_:=Zz.mk (qP (by repeat (first|(with_reducible first|exact HB.out|apply qA|apply qN|apply q1_|refine qS ?_ GE246.out)|exact HB.out)) hb);clear HO_3;clear BK246;clear HB;have HO_3:=n0_;have HO257:=n1_;have BK246:=n2_;have HB:=n3_;clear n0_ n1_ n2_ n3_;clear hb ho15;obtain ⟨Ao16,co16,eo16⟩:=Kd.R_slice HO257.out;subst eo16)|((with_reducible refine gate_dst (N:=6) rfl ?_);refine box_event ?hg (N:=6) ?hd (cs:=#[.slice none 0 0]) (t:=24) ?hr ?_;(case hd=>rfl);(case hg=>rfl);(case hr=>first|(go_simp;done)|(go_simp;rfl));intro gb258 hg w17 hbox hb;have n0_:=Zz.mk (Kd.V_below (Kd.V_elderB (by (with_reducible repeat (first|apply Kd.V_alloc|apply Kd.V_drewN|apply Kd.V_drew));exact HO_3.out) gb258 (Nat.le_of_eq hg.symm)) hb);have n1_:=Zz.mk (Kd.R_below (by (with_reducible repeat first|apply Kd.R_alloc|apply Kd.R_drewN|apply Kd.R_drew);exact HO257.out) hb);have n2_:=Zz.mk (bB (g:=gb246) (o:=.cells #[.slice none 0 0] 24 (0,0)) (by (with_reducible repeat first|apply bN|apply bD|apply bA);exact BK246.out) hb);have n3_:=Zz.mk (qP (by repeat (first|(with_reducible first|exact HB.out|apply qA|apply qN|apply q1_|refine qS ?_ GE246.out)|exact HB.out)) hb);have n4_:=Zz.mk (hbox);have n5_:=Zz.mk ((by rw [hg];exact (qZ (by repeat (first|(with_reducible first|exact HB.out|apply qA|apply qN|apply q1_|refine qS ?_ GE246.out)|exact HB.out))):w.heap.size≤gb258));have n6_:=Zz.mk ((by rw [hg];exact (qZ (by repeat (first|(with_reducible first|exact HB.out|apply qA|apply qN|apply q1_|refine qS ?_ GE246.out)|exact HB.out))):w.heap.size≤gb258));have n7_:=Zz.mk ((by rw [hg];exact Nat.ne_of_lt (blk_lt (g:=gb246) (o:=.cells #[.slice none 0 0] 24 (0,0)) (by (with_reducible repeat first|apply bN|apply bD|apply bA);exact BK246.out)):gb246 ≠ gb258));have n8_:=Zz.mk ((by rw [hg];exact Nat.ne_of_gt (blk_lt (g:=gb246) (o:=.cells #[.slice none 0 0] 24 (0,0)) (by (with_reducible repeat first|apply bN|apply bD|apply bA);exact BK246.out)):gb258 ≠ gb246));clear HO_3;clear HO257;clear BK246;clear HB;have HO_3:=n0_;have HO257:=n1_;have BK246:=n2_;have HB:=n3_;have BK258:=n4_;have GW258:=n5_;have GE258:=n6_;have NB246_258:=n7_;have NB258_246:=n8_;clear n0_ n1_ n2_ n3_ n4_ n5_ n6_ n7_ n8_;clear hb hbox hg;have hnb18:=NB258_246.out;have hnc18:=NB246_258.out;have hcz19_0:w17.cell? ⟨gb258,0,none⟩=some (.slice none 0 0):=(bC BK258.out 0).trans rfl;have hfz19_0:=bF BK258.out 0))
    go_loopg [7] k1 (fun kq v7 w'=>∃ (x7_2:Int) (x259000_2:List (S62)) (u259000:Value),v7=.int .i64 x7_2∧Zz (spec_l2Of.l2 kq l0 x3_1 x7_2 x259000_2=some r)∧Zz (kq≤k1)∧Zz (Kd.V Kd.string 9 w' w.heap.size (fun k_=>some k_ ≠ (u259000:Value).ownBlock∧k_ ≠ gb246∧k_ ≠ gb258) u3 x3_1)∧Zz (Kd.R k62 62 w' w.heap.size (fun _=>True) u259000 x259000_2)∧Zz (w'.heap[gb246]?=some (.cells #[(.slice none 0 0)] 24 (0,0)))∧Zz (w'.heap[gb258]?=some (.cells #[u259000] 24 (0,0)))∧Zz (Below w.heap.size w w'))
    case atStart=>exact ⟨(0),(y255),(.slice Ao16 y255.length co16),(by first|rfl|(simp;done)|(simp [*];done)),H',⟨Nat.le_refl _⟩,⟨by (with_reducible repeat (first|apply Kd.V_alloc|apply Kd.V_drewN|apply Kd.V_drew));exact Kd.V_mono (V_same_ (Kd.V_far (p:=⟨gb258,0,none⟩) (Kd.V_mono HO_3.out (fun k_ hk=>(⟨hk,hk.2⟩:_∧k_ ≠ gb258))) (fun _ hk=>hk.2) (.slice Ao16 y255.length co16)) rfl) (fun _ hk=>⟨hk.1.1.2,⟨hk.1.1.1,hk.1.2⟩⟩)⟩,⟨by (with_reducible repeat first|apply Kd.R_alloc|apply Kd.R_drewN|apply Kd.R_drew);exact Kd.R_mono (R_same_ (Kd.R_far (p:=⟨gb258,0,none⟩) (Kd.R_types HO257.out BK258.out (by decide)) (fun _ hk=>hk.2) (.slice Ao16 y255.length co16)) rfl) (fun _ hk=>trivial)⟩,⟨by (with_reducible repeat first|apply bN|apply bD|apply bA);refine blk_far ?_ NB246_258.out _;(with_reducible repeat first|apply bN|apply bD|apply bA);exact BK246.out⟩,⟨by (with_reducible repeat first|apply bN|apply bD|apply bA);refine blk_put (cs:=#[.slice none 0 0]) ?_ 0 _ rfl;(with_reducible repeat first|apply bN|apply bD|apply bA);exact BK258.out⟩,⟨by repeat (first|(with_reducible first|exact HB.out|apply qA|apply qN|apply q1_|refine qS ?_ GE246.out|refine qS ?_ GE258.out)|exact HB.out)⟩⟩
    case round =>
     clear H'
     try clear c1
     try clear p2
     try clear q2
     try clear hx2
     try clear c3
     try clear c5
     try clear c5b0
     try clear c6
     try clear c6b0
     try clear p6
     try clear c7
     try clear c7b0
     try clear c8
     try clear c8b0
     try clear c9
     try clear c9b0
     try clear c9b1
     try clear c10
     try clear c10b0
     try clear c18
     try clear hcz19_0
     try clear hfz19_0
     try clear hx250_0
     try clear hx251_0
     try clear p2
     try clear p250
     try clear p251
     try clear q250
     try clear q251
     obtain ⟨x7_2,x259000_2,u259000,rfl,HA,HK2,HO_3,HO_259000,BK246,BK258,HB⟩:=hrel
     cases gk with
     | zero=>exact absurd HA.out (by simp [spec_l2Of.l2])
     | succ k2 =>
      have H:=HA.out
      clear HA
      simp only [spec_l2Of.l2] at H
      by_cases c20:x7_2<(x3_1.length:Int)
      ·rw [if_pos c20] at H
       have c20b0:decide (x7_2<(x3_1.length:Int))=true:=decide_eq_true c20
       clear c20
       by_cases c21:0≤x7_2
       ·rw [if_pos c21] at H
        have c21b0:decide (0≤x7_2)=true:=decide_eq_true c21
        clear c21
        replace H:=Option.bind_eq_some_iff.mp H
        obtain ⟨t260,A220,H⟩:=H
        replace H:(if x7_2 > 0 then (if 0≤(wrap64 (((rdOf ByteArray.empty x3_1 x7_2).size:Int) - 1)) then (if (wrap64 (((rdOf ByteArray.empty x3_1 x7_2).size:Int) - 1))<((rdOf ByteArray.empty x3_1 x7_2).size:Int) then (if (wrap64 (((rdOf ByteArray.empty x3_1 x7_2).size:Int) - 1))≤((rdOf ByteArray.empty x3_1 x7_2).size:Int) then ((spec_l2Place.f k2 x3_1 ((rdOf ByteArray.empty x3_1 x7_2).extract 0 ((wrap64 (((rdOf ByteArray.empty x3_1 x7_2).size:Int) - 1)):Int).toNat)).bind fun t262=>(if x259000_2.length<5864062014805 then (spec_l2Of.l2 k2 l0 x3_1 (wrap64 (x7_2+1)) (x259000_2 ++ [(⟨((bt (rdOf ByteArray.empty x3_1 x7_2) (wrap64 (((rdOf ByteArray.empty x3_1 x7_2).size:Int) - 1))) - 97) % 256,t262,t260⟩:S62)])) else (none))) else (none)) else (none)) else (none)) else (if x259000_2.length<5864062014805 then (spec_l2Of.l2 k2 l0 x3_1 (wrap64 (x7_2+1)) (x259000_2 ++ [(⟨(-1),(-1),t260⟩:S62)])) else (none)))=some r:=H
        have A22:=Zz.mk A220
        clear A220
        by_cases c23:x7_2 > 0
        ·rw [if_pos c23] at H
         have c23b0:decide (0<x7_2)=true:=decide_eq_true c23
         clear c23
         obtain ⟨ji24,hji24⟩:∃ j_:Int,(wrap64 (((rdOf ByteArray.empty x3_1 x7_2).size:Int) - 1))=j_:=⟨_,rfl⟩
         replace H:(if 0≤(ji24) then (if (ji24)<((rdOf ByteArray.empty x3_1 x7_2).size:Int) then (if (ji24)≤((rdOf ByteArray.empty x3_1 x7_2).size:Int) then ((spec_l2Place.f k2 x3_1 ((rdOf ByteArray.empty x3_1 x7_2).extract 0 ((ji24):Int).toNat)).bind fun t262=>(if x259000_2.length<5864062014805 then (spec_l2Of.l2 k2 l0 x3_1 (wrap64 (x7_2+1)) (x259000_2 ++ [(⟨((bt (rdOf ByteArray.empty x3_1 x7_2) (ji24)) - 97) % 256,t262,t260⟩:S62)])) else (none))) else (none)) else (none)) else (none))=some r:=by first|(rw [hji24] at H;exact H)|(simp only [hji24] at H ⊢;exact H)
         (try rw [hji24] at A22)
         have hji24w:(IntKind.i64.wrap (((rdOf ByteArray.empty x3_1 x7_2).size:Int) - 1))=ji24:=(i64_w _).trans hji24
         by_cases c25:0≤(ji24)
         ·rw [if_pos c25] at H
          have c25b0:decide (0≤(ji24))=true:=decide_eq_true c25
          clear c25
          by_cases c26:(ji24)<((rdOf ByteArray.empty x3_1 x7_2).size:Int)
          ·rw [if_pos c26] at H
           have c26b0:decide ((ji24)<((rdOf ByteArray.empty x3_1 x7_2).size:Int))=true:=decide_eq_true c26
           clear c26
           have c28b0:=eq_true (of_decide_eq_true (by first|(with_reducible assumption)|assumption):0≤(ji24))
           by_cases c29:(ji24)≤((rdOf ByteArray.empty x3_1 x7_2).size:Int)
           ·rw [if_pos c29] at H
            have c29b0:=eq_true c29
            have c29b1:decide ((ji24)≤((rdOf ByteArray.empty x3_1 x7_2).size:Int))=true:=decide_eq_true c29
            clear c29
            replace H:=Option.bind_eq_some_iff.mp H
            obtain ⟨t262,A300,H⟩:=H
            replace H:(if x259000_2.length<5864062014805 then (spec_l2Of.l2 k2 l0 x3_1 (wrap64 (x7_2+1)) (x259000_2 ++ [(⟨((bt (rdOf ByteArray.empty x3_1 x7_2) (ji24)) - 97) % 256,t262,t260⟩:S62)])) else (none))=some r:=H
            have A30:=Zz.mk A300
            clear A300
            by_cases c31:x259000_2.length<5864062014805
            ·rw [if_pos c31] at H
             have LMc31:=Zz.mk c31
             clear c31
             obtain ⟨y263,hy263⟩:∃ y_:List (S62),y_=(x259000_2 ++ [(⟨((bt (rdOf ByteArray.empty x3_1 x7_2) (ji24)) - 97) % 256,t262,t260⟩:S62)]):=⟨_,rfl⟩
             replace H:(spec_l2Of.l2 k2 l0 x3_1 (wrap64 (x7_2+1)) y263)=some r:=by first|(rw [hy263];with_reducible exact H)|(have H2_:=(Option.bind_some _ _).symm.trans H;rw [hy263];with_reducible exact H2_)|(have H2_:=(Option.bind_some _ _).symm.trans H;with_reducible exact H2_)|with_reducible exact H|(rw [hy263];exact H)|exact H
             have Ny263:=Zz.mk hy263
             clear hy263
             have H':=Zz.mk H
             clear H
             obtain ⟨Ao32,co32,eo32⟩:=Kd.V_slice HO_3.out
             subst eo32
             have p259:0≤(x7_2:Int):=of_decide_eq_true (by first|(with_reducible assumption)|assumption)
             have q259:x7_2<(x3_1.length:Int):=of_decide_eq_true (by first|(with_reducible assumption)|assumption)
             obtain ⟨ad259,e259,hx259_0⟩:=Kd.at_string (Kd.V_reads' HO_3.out).2.2 x7_2 p259 q259
             cases e259
             replace p259:=eq_true p259
             replace q259:=eq_true q259
             go_wp2_with (first|((with_reducible refine gate_callee (f:=58) rfl ?_);refine goesL_ (some 48) rfl rfl Try.func58 (by kernel_rfl) rfl #[.slice A0 l0.length c0,.string (rdOf ByteArray.empty x3_1 x7_2)] rfl (by (try simp only [List.map_toArray,List.map_cons,List.map_nil]);first|done|rfl|(simp only [List.length_drop,List.length_take];rfl)) ?_;(with_reducible refine (spec_l2Has.calls k2 _ _ l0 (rdOf ByteArray.empty x3_1 x7_2) t260 _ ?side1 ?side2 A22.out).mono ?_);(case side1=>repeat (first|exact (Kd.C_below HR0.out HB.out)|(with_reducible refine Kd.C_alloc ?_ _)|(with_reducible refine Kd.C_drewN ?_ _)|(with_reducible refine Kd.C_drew ?_)));(case side2=>exact HC0.out);rintro e w' ⟨rfl,⟨nd,rfl⟩⟩;refine ⟨_,rfl,?_⟩;(try (rw [drewN_self wr];generalize hq_:World.drewN wr _=wr;have n0_:Zz (Kd.R k62 62 wr w.heap.size (fun _=>True) u259000 x259000_2):=⟨by rw [← hq_];exact (by (with_reducible repeat first|apply Kd.R_alloc|apply Kd.R_drewN|apply Kd.R_drew);exact HO_259000.out)⟩;have n1_:Zz (Kd.V Kd.string 9 wr w.heap.size (fun k_=>some k_ ≠ (u259000:Value).ownBlock∧k_ ≠ gb246∧k_ ≠ gb258) (.slice (some ad259) x3_1.length co32) x3_1):=⟨by rw [← hq_];exact (by (with_reducible repeat (first|apply Kd.V_alloc|apply Kd.V_drewN|apply Kd.V_drew));exact HO_3.out)⟩;have n2_:Zz (wr.heap[gb246]?=some (.cells #[.slice none 0 0] 24 (0,0))):=⟨by rw [← hq_];exact (by (with_reducible repeat first|apply bN|apply bD|apply bA);exact BK246.out)⟩;have n3_:Zz (wr.heap[gb258]?=some (.cells #[u259000] 24 (0,0))):=⟨by rw [← hq_];exact (by (with_reducible repeat first|apply bN|apply bD|apply bA);exact BK258.out)⟩;have n4_:Zz (Below w.heap.size w wr):=⟨by rw [← hq_];exact (by repeat (first|(with_reducible first|exact HB.out|apply qA|apply qN|apply q1_|refine qS ?_ GE246.out|refine qS ?_ GE258.out)|exact HB.out))⟩;clear HO_259000 HO_3 BK246 BK258 HB hq_;have HO_259000:=n0_;have HO_3:=n1_;have BK246:=n2_;have BK258:=n3_;have HB:=n4_;clear n0_ n1_ n2_ n3_ n4_)))|((with_reducible refine gate_dst (N:=9) rfl ?_);refine box_event ?hg (N:=9) ?hd (cs:=#[.int .i64 0,.int .i64 0,.bool false]) (t:=62) ?hr ?_;(case hd=>rfl);(case hg=>rfl);(case hr=>first|(go_simp;done)|(go_simp;rfl));intro gb261 hg w33 hbox hb;have n0_:=Zz.mk (Kd.V_below (Kd.V_elderB (by (with_reducible repeat (first|apply Kd.V_alloc|apply Kd.V_drewN|apply Kd.V_drew));exact HO_3.out) gb261 (Nat.le_of_eq hg.symm)) hb);have n1_:=Zz.mk (Kd.R_below (Kd.R_elderB (by (with_reducible repeat first|apply Kd.R_alloc|apply Kd.R_drewN|apply Kd.R_drew);exact HO_259000.out) gb261 (Nat.le_of_eq hg.symm)) hb);have n2_:=Zz.mk (bB (g:=gb246) (o:=.cells #[.slice none 0 0] 24 (0,0)) (by (with_reducible repeat first|apply bN|apply bD|apply bA);exact BK246.out) hb);have n3_:=Zz.mk (bB (g:=gb258) (o:=.cells #[u259000] 24 (0,0)) (by (with_reducible repeat first|apply bN|apply bD|apply bA);exact BK258.out) hb);have n4_:=Zz.mk (qP (by repeat (first|(with_reducible first|exact HB.out|apply qA|apply qN|apply q1_|refine qS ?_ GE246.out|refine qS ?_ GE258.out)|exact HB.out)) hb);have n5_:=Zz.mk (hbox);have n6_:=Zz.mk ((by rw [hg];exact (qZ (by repeat (first|(with_reducible first|exact HB.out|apply qA|apply qN|apply q1_|refine qS ?_ GE246.out|refine qS ?_ GE258.out)|exact HB.out))):w.heap.size≤gb261));have n7_:=Zz.mk ((by rw [hg];exact (qZ (by repeat (first|(with_reducible first|exact HB.out|apply qA|apply qN|apply q1_|refine qS ?_ GE246.out|refine qS ?_ GE258.out)|exact HB.out))):w.heap.size≤gb261));have n8_:=Zz.mk ((by rw [hg];exact Nat.ne_of_lt (blk_lt (g:=gb246) (o:=.cells #[.slice none 0 0] 24 (0,0)) (by (with_reducible repeat first|apply bN|apply bD|apply bA);exact BK246.out)):gb246 ≠ gb261));have n9_:=Zz.mk ((by rw [hg];exact Nat.ne_of_gt (blk_lt (g:=gb246) (o:=.cells #[.slice none 0 0] 24 (0,0)) (by (with_reducible repeat first|apply bN|apply bD|apply bA);exact BK246.out)):gb261 ≠ gb246));have n10_:=Zz.mk ((by rw [hg];exact Nat.ne_of_lt (blk_lt (g:=gb258) (o:=.cells #[u259000] 24 (0,0)) (by (with_reducible repeat first|apply bN|apply bD|apply bA);exact BK258.out)):gb258 ≠ gb261));have n11_:=Zz.mk ((by rw [hg];exact Nat.ne_of_gt (blk_lt (g:=gb258) (o:=.cells #[u259000] 24 (0,0)) (by (with_reducible repeat first|apply bN|apply bD|apply bA);exact BK258.out)):gb261 ≠ gb258));clear HO_3;clear HO_259000;clear BK246;clear BK258;clear HB;have HO_3:=n0_;have HO_259000:=n1_;have BK246:=n2_;have BK258:=n3_;have HB:=n4_;have BK261:=n5_;have GW261:=n6_;have GE261:=n7_;have NB246_261:=n8_;have NB261_246:=n9_;have NB258_261:=n10_;have NB261_258:=n11_;clear n0_ n1_ n2_ n3_ n4_ n5_ n6_ n7_ n8_ n9_ n10_ n11_;clear hb hbox hg;have hnb34:=NB261_246.out;have hnc34:=NB246_261.out;have hnb35:=NB261_258.out;have hnc35:=NB258_261.out;have hcz36_0:w33.cell? ⟨gb261,0,none⟩=some (.int .i64 0):=(bC BK261.out 0).trans rfl;have hcz36_1:w33.cell? ⟨gb261,1,none⟩=some (.int .i64 0):=(bC BK261.out 1).trans rfl;have hcz36_2:w33.cell? ⟨gb261,2,none⟩=some (.bool false):=(bC BK261.out 2).trans rfl;have hfz36_0:=bF BK261.out 0;have hfz36_1:=bF BK261.out 1;have hfz36_2:=bF BK261.out 2;have p27:0≤((ji24):Int):=of_decide_eq_true (by first|(with_reducible assumption)|assumption);have q27:(ji24)<((rdOf ByteArray.empty x3_1 x7_2).size:Int):=of_decide_eq_true (by first|(with_reducible assumption)|assumption);have hx27:=bt_at (rdOf ByteArray.empty x3_1 x7_2) (ji24);replace p27:=eq_true p27;replace q27:=eq_true q27)|((with_reducible refine gate_callee (f:=59) rfl ?_);refine goesL_ (some 66) rfl rfl Try.func59 (by kernel_rfl) rfl #[.slice (some ad259) x3_1.length co32,.string ((rdOf ByteArray.empty x3_1 x7_2).extract 0 ((ji24):Int).toNat)] rfl (by (try simp only [List.map_toArray,List.map_cons,List.map_nil]);first|done|(simp only [hji24];rfl)|rfl|(simp only [List.length_drop,List.length_take];rfl)) ?_;(with_reducible refine (spec_l2Place.calls k2 _ _ x3_1 ((rdOf ByteArray.empty x3_1 x7_2).extract 0 ((ji24):Int).toNat) t262 _ ?side1 ?side2 A30.out).mono ?_);(case side1=>refine (Kd.V_reads' (e:=9) (base:=w.heap.size) (ok:=fun k_=>((some k_ ≠ (u259000:Value).ownBlock∧(k_ ≠ gb246∧k_ ≠ gb258))∧k_ ≠ gb261)) (n:=x3_1.length) (c:=co32) ?_).2.2;exact (by (with_reducible repeat (first|apply Kd.V_alloc|apply Kd.V_drewN|apply Kd.V_drew));exact (Kd.V_mono (V_same_ (Kd.V_far (p:=⟨gb261,0,none⟩) (Kd.V_far (p:=⟨gb261,2,none⟩) (Kd.V_far (p:=⟨gb261,1,none⟩) (Kd.V_far (p:=⟨gb261,0,none⟩) (Kd.V_mono HO_3.out (fun k_ hk=>(⟨hk,hk.2⟩:_∧k_ ≠ gb261))) (fun _ hk=>hk.2) (.int .i64 (-1))) (fun _ hk=>hk.2) (.int .i64 (-1))) (fun _ hk=>hk.2) (.bool t260)) (fun _ hk=>hk.2) (.int .i64 (((bt (rdOf ByteArray.empty x3_1 x7_2) (ji24)) - 97) % 256))) rfl) (fun _ h_=>h_.1))));(case side2=>exact (Kd.V_reads' HO_3.out).2.1);rintro e w' ⟨rfl,⟨nd,rfl⟩⟩;refine ⟨_,rfl,?_⟩;have hnb37:=NB258_246.out;have hnc37:=NB246_258.out;have hcz38_0:w33.cell? ⟨gb258,0,none⟩=some (u259000):=(bC BK258.out 0).trans rfl;have hfz38_0:=bF BK258.out 0)|((with_reducible refine gate_builtin (b:=.append) (xs:=#[.tmp 69,.tmp 71]) rfl ?_);at_builtin;refine Kd.R_append k62 (w0:=w) w.heap.size rfl (.tmp 69) (.tmp 71) 22 62 (.agg #[(.int .i64 0),(.int .i64 0),(.bool false)]) 24 rfl Try.underlying22 info62 rfl (by decide) (by omega) u259000 x259000_2 (⟨((bt (rdOf ByteArray.empty x3_1 x7_2) (ji24)) - 97) % 256,t262,t260⟩:S62) [.int .i64 (((bt (rdOf ByteArray.empty x3_1 x7_2) (ji24)) - 97) % 256),.int .i64 t262,.bool t260] (fun k_=>k_ ≠ gb261) (fun _=>False) rfl (by first|(go_simp;done)|(go_simp;rfl)) ?aP (fun _ hk=>hk.elim) ?aF ?aO ?aB ?aS ?aL ?_;(case aP=>exact k62_mkM _ _ _ (⟨((bt (rdOf ByteArray.empty x3_1 x7_2) (ji24)) - 97) % 256,t262,t260⟩:S62));(case aB=>exact (by repeat (first|(with_reducible first|exact HB.out|apply qA|apply qN|apply q1_|refine qS ?_ GE246.out|refine qS ?_ GE258.out|refine qS ?_ GE261.out)|exact HB.out)));(case aF=>exact (fun k_ hk=>Kd.freshB (g:=gb261) (o:=.cells #[.int .i64 (((bt (rdOf ByteArray.empty x3_1 x7_2) (ji24)) - 97) % 256),.int .i64 t262,.bool t260] 62 (0,0)) (by (with_reducible repeat first|apply bN|apply bD|apply bA);refine blk_put (cs:=#[.int .i64 (((bt (rdOf ByteArray.empty x3_1 x7_2) (ji24)) - 97) % 256),.int .i64 (-1),.bool t260]) ?_ 1 _ rfl;(with_reducible repeat first|apply bN|apply bD|apply bA);refine blk_put (cs:=#[.int .i64 (-1),.int .i64 (-1),.bool t260]) ?_ 0 _ rfl;(with_reducible repeat first|apply bN|apply bD|apply bA);refine blk_put (cs:=#[.int .i64 (-1),.int .i64 (-1),.bool false]) ?_ 2 _ rfl;(with_reducible repeat first|apply bN|apply bD|apply bA);refine blk_put (cs:=#[.int .i64 (-1),.int .i64 0,.bool false]) ?_ 1 _ rfl;(with_reducible repeat first|apply bN|apply bD|apply bA);refine blk_put (cs:=#[.int .i64 0,.int .i64 0,.bool false]) ?_ 0 _ rfl;(with_reducible repeat first|apply bN|apply bD|apply bA);exact BK261.out) k_ hk));(case aO=>exact (by (with_reducible repeat first|apply Kd.R_alloc|apply Kd.R_drewN|apply Kd.R_drew);exact Kd.R_mono (R_same_ (Kd.R_far (p:=⟨gb261,1,none⟩) (Kd.R_far (p:=⟨gb261,0,none⟩) (Kd.R_far (p:=⟨gb261,2,none⟩) (Kd.R_far (p:=⟨gb261,1,none⟩) (Kd.R_far (p:=⟨gb261,0,none⟩) (Kd.R_mono HO_259000.out (fun k_ hk=>(⟨hk,hk.2⟩:_∧k_ ≠ gb261))) (fun _ hk=>hk.2) (.int .i64 (-1))) (fun _ hk=>hk.2) (.int .i64 (-1))) (fun _ hk=>hk.2) (.bool t260)) (fun _ hk=>hk.2) (.int .i64 (((bt (rdOf ByteArray.empty x3_1 x7_2) (ji24)) - 97) % 256))) (fun _ hk=>hk.2) (.int .i64 t262)) rfl) (fun _ hk=>hk.1.2)));(case aS=>exact (qZ (by repeat (first|(with_reducible first|exact HB.out|apply qA|apply qN|apply q1_|refine qS ?_ GE246.out|refine qS ?_ GE258.out|refine qS ?_ GE261.out)|exact HB.out))));(case aL=>have:=LMc31.out;omega);intro v264 w39 ho hb hg hat;rw [← Ny263.out] at ho;have n0_:=Zz.mk (Kd.V_afterv (ok:=(fun k_=>k_ ≠ gb246∧k_ ≠ gb258∧k_ ≠ gb261)) (by (with_reducible repeat (first|apply Kd.V_alloc|apply Kd.V_drewN|apply Kd.V_drew));exact Kd.V_mono (V_same_ (Kd.V_far (p:=⟨gb261,1,none⟩) (Kd.V_far (p:=⟨gb261,0,none⟩) (Kd.V_far (p:=⟨gb261,2,none⟩) (Kd.V_far (p:=⟨gb261,1,none⟩) (Kd.V_far (p:=⟨gb261,0,none⟩) (Kd.V_mono HO_3.out (fun k_ hk=>(⟨hk,hk.2⟩:_∧k_ ≠ gb261))) (fun _ hk=>hk.2) (.int .i64 (-1))) (fun _ hk=>hk.2) (.int .i64 (-1))) (fun _ hk=>hk.2) (.bool t260)) (fun _ hk=>hk.2) (.int .i64 (((bt (rdOf ByteArray.empty x3_1 x7_2) (ji24)) - 97) % 256))) (fun _ hk=>hk.2) (.int .i64 t262)) rfl) (fun _ hk=>⟨⟨hk.1.1.2.1,⟨hk.1.1.2.2,hk.1.2⟩⟩,hk.1.1.1⟩)) hg hat);have n1_:=Zz.mk (blk_grown (g:=gb246) (o:=.cells #[.slice none 0 0] 24 (0,0)) (by (with_reducible repeat first|apply bN|apply bD|apply bA);refine blk_far ?_ NB246_261.out _;(with_reducible repeat first|apply bN|apply bD|apply bA);refine blk_far ?_ NB246_261.out _;(with_reducible repeat first|apply bN|apply bD|apply bA);refine blk_far ?_ NB246_261.out _;(with_reducible repeat first|apply bN|apply bD|apply bA);refine blk_far ?_ NB246_261.out _;(with_reducible repeat first|apply bN|apply bD|apply bA);refine blk_far ?_ NB246_261.out _;(with_reducible repeat first|apply bN|apply bD|apply bA);exact BK246.out) hg (Kd.R_ne HO_259000.out BK246.out (by decide)));have n2_:=Zz.mk (blk_grown (g:=gb258) (o:=.cells #[u259000] 24 (0,0)) (by (with_reducible repeat first|apply bN|apply bD|apply bA);refine blk_far ?_ NB258_261.out _;(with_reducible repeat first|apply bN|apply bD|apply bA);refine blk_far ?_ NB258_261.out _;(with_reducible repeat first|apply bN|apply bD|apply bA);refine blk_far ?_ NB258_261.out _;(with_reducible repeat first|apply bN|apply bD|apply bA);refine blk_far ?_ NB258_261.out _;(with_reducible repeat first|apply bN|apply bD|apply bA);refine blk_far ?_ NB258_261.out _;(with_reducible repeat first|apply bN|apply bD|apply bA);exact BK258.out) hg (Kd.R_ne HO_259000.out BK258.out (by decide)));have n3_:=Zz.mk (blk_grown (g:=gb261) (o:=.cells #[.int .i64 (((bt (rdOf ByteArray.empty x3_1 x7_2) (ji24)) - 97) % 256),.int .i64 t262,.bool t260] 62 (0,0)) (by (with_reducible repeat first|apply bN|apply bD|apply bA);refine blk_put (cs:=#[.int .i64 (((bt (rdOf ByteArray.empty x3_1 x7_2) (ji24)) - 97) % 256),.int .i64 (-1),.bool t260]) ?_ 1 _ rfl;(with_reducible repeat first|apply bN|apply bD|apply bA);refine blk_put (cs:=#[.int .i64 (-1),.int .i64 (-1),.bool t260]) ?_ 0 _ rfl;(with_reducible repeat first|apply bN|apply bD|apply bA);refine blk_put (cs:=#[.int .i64 (-1),.int .i64 (-1),.bool false]) ?_ 2 _ rfl;(with_reducible repeat first|apply bN|apply bD|apply bA);refine blk_put (cs:=#[.int .i64 (-1),.int .i64 0,.bool false]) ?_ 1 _ rfl;(with_reducible repeat first|apply bN|apply bD|apply bA);refine blk_put (cs:=#[.int .i64 0,.int .i64 0,.bool false]) ?_ 0 _ rfl;(with_reducible repeat first|apply bN|apply bD|apply bA);exact BK261.out) hg (Kd.R_away HO_259000.out (fun _ hk=>hk.2)));have n4_:=Zz.mk (hb);have n5_:=Zz.mk (ho);clear HO_3;clear BK246;clear BK258;clear BK261;clear HB;clear HO_259000;have HO_3:=n0_;have BK246:=n1_;have BK258:=n2_;have BK261:=n3_;have HB:=n4_;have HO265:=n5_;clear n0_ n1_ n2_ n3_ n4_ n5_;clear ho hb hg hat;obtain ⟨Ao40,co40,eo40⟩:=Kd.R_slice HO265.out;subst eo40;have hcz41_0:w39.cell? ⟨gb258,0,none⟩=some (u259000):=(bC BK258.out 0).trans rfl;have hfz41_0:=bF BK258.out 0))
             go_roundg k2
             case measure=>have:=HK1.out;have:=HK2.out;omega
             case rel=>exact ⟨(wrap64 (x7_2+1)),(y263),(.slice Ao40 y263.length co40),(by first|rfl|(simp;done)|(simp [*];done)),H',⟨by have:=HK1.out;have:=HK2.out;omega⟩,⟨by (with_reducible repeat (first|apply Kd.V_alloc|apply Kd.V_drewN|apply Kd.V_drew));exact Kd.V_mono (V_same_ (Kd.V_far (p:=⟨gb258,0,none⟩) (Kd.V_mono HO_3.out (fun k_ hk=>(⟨hk,hk.1.2.1⟩:_∧k_ ≠ gb258))) (fun _ hk=>hk.2) (.slice Ao40 y263.length co40)) rfl) (fun _ hk=>⟨hk.1.2,⟨hk.1.1.1,hk.1.1.2.1⟩⟩)⟩,⟨by (with_reducible repeat first|apply Kd.R_alloc|apply Kd.R_drewN|apply Kd.R_drew);exact Kd.R_mono (R_same_ (Kd.R_far (p:=⟨gb258,0,none⟩) (Kd.R_types HO265.out BK258.out (by decide)) (fun _ hk=>hk.2) (.slice Ao40 y263.length co40)) rfl) (fun _ hk=>trivial)⟩,⟨by (with_reducible repeat first|apply bN|apply bD|apply bA);refine blk_far ?_ NB246_258.out _;(with_reducible repeat first|apply bN|apply bD|apply bA);exact BK246.out⟩,⟨by (with_reducible repeat first|apply bN|apply bD|apply bA);refine blk_put (cs:=#[u259000]) ?_ 0 _ rfl;(with_reducible repeat first|apply bN|apply bD|apply bA);exact BK258.out⟩,⟨by repeat (first|(with_reducible first|exact HB.out|apply qA|apply qN|apply q1_|refine qS ?_ GE246.out|refine qS ?_ GE258.out|refine qS ?_ GE261.out)|exact HB.out)⟩⟩
            ·rw [if_neg c31] at H
             exact absurd H (by simp)
           ·rw [if_neg c29] at H
            exact absurd H (by simp)
          ·rw [if_neg c26] at H
           exact absurd H (by simp)
         ·rw [if_neg c25] at H
          exact absurd H (by simp)
        ·rw [if_neg c23] at H
         have c23b0:decide (0<x7_2)=false:=decide_eq_false c23
         clear c23
         by_cases c42:x259000_2.length<5864062014805
         ·rw [if_pos c42] at H
          have LMc42:=Zz.mk c42
          clear c42
          obtain ⟨y266,hy266⟩:∃ y_:List (S62),y_=(x259000_2 ++ [(⟨(-1),(-1),t260⟩:S62)]):=⟨_,rfl⟩
          replace H:(spec_l2Of.l2 k2 l0 x3_1 (wrap64 (x7_2+1)) y266)=some r:=by first|(rw [hy266];with_reducible exact H)|(have H2_:=(Option.bind_some _ _).symm.trans H;rw [hy266];with_reducible exact H2_)|(have H2_:=(Option.bind_some _ _).symm.trans H;with_reducible exact H2_)|with_reducible exact H|(rw [hy266];exact H)|exact H
          have Ny266:=Zz.mk hy266
          clear hy266
          have H':=Zz.mk H
          clear H
          obtain ⟨Ao43,co43,eo43⟩:=Kd.V_slice HO_3.out
          subst eo43
          have p259:0≤(x7_2:Int):=of_decide_eq_true (by first|(with_reducible assumption)|assumption)
          have q259:x7_2<(x3_1.length:Int):=of_decide_eq_true (by first|(with_reducible assumption)|assumption)
          obtain ⟨ad259,e259,hx259_0⟩:=Kd.at_string (Kd.V_reads' HO_3.out).2.2 x7_2 p259 q259
          cases e259
          replace p259:=eq_true p259
          replace q259:=eq_true q259
          go_wp2_with (first|((with_reducible refine gate_callee (f:=58) rfl ?_);refine goesL_ (some 48) rfl rfl Try.func58 (by kernel_rfl) rfl #[.slice A0 l0.length c0,.string (rdOf ByteArray.empty x3_1 x7_2)] rfl (by (try simp only [List.map_toArray,List.map_cons,List.map_nil]);first|done|rfl|(simp only [List.length_drop,List.length_take];rfl)) ?_;(with_reducible refine (spec_l2Has.calls k2 _ _ l0 (rdOf ByteArray.empty x3_1 x7_2) t260 _ ?side1 ?side2 A22.out).mono ?_);(case side1=>repeat (first|exact (Kd.C_below HR0.out HB.out)|(with_reducible refine Kd.C_alloc ?_ _)|(with_reducible refine Kd.C_drewN ?_ _)|(with_reducible refine Kd.C_drew ?_)));(case side2=>exact HC0.out);rintro e w' ⟨rfl,⟨nd,rfl⟩⟩;refine ⟨_,rfl,?_⟩;(try (rw [drewN_self wr];generalize hq_:World.drewN wr _=wr;have n0_:Zz (Kd.R k62 62 wr w.heap.size (fun _=>True) u259000 x259000_2):=⟨by rw [← hq_];exact (by (with_reducible repeat first|apply Kd.R_alloc|apply Kd.R_drewN|apply Kd.R_drew);exact HO_259000.out)⟩;have n1_:Zz (Kd.V Kd.string 9 wr w.heap.size (fun k_=>some k_ ≠ (u259000:Value).ownBlock∧k_ ≠ gb246∧k_ ≠ gb258) (.slice (some ad259) x3_1.length co43) x3_1):=⟨by rw [← hq_];exact (by (with_reducible repeat (first|apply Kd.V_alloc|apply Kd.V_drewN|apply Kd.V_drew));exact HO_3.out)⟩;have n2_:Zz (wr.heap[gb246]?=some (.cells #[.slice none 0 0] 24 (0,0))):=⟨by rw [← hq_];exact (by (with_reducible repeat first|apply bN|apply bD|apply bA);exact BK246.out)⟩;have n3_:Zz (wr.heap[gb258]?=some (.cells #[u259000] 24 (0,0))):=⟨by rw [← hq_];exact (by (with_reducible repeat first|apply bN|apply bD|apply bA);exact BK258.out)⟩;have n4_:Zz (Below w.heap.size w wr):=⟨by rw [← hq_];exact (by repeat (first|(with_reducible first|exact HB.out|apply qA|apply qN|apply q1_|refine qS ?_ GE246.out|refine qS ?_ GE258.out)|exact HB.out))⟩;clear HO_259000 HO_3 BK246 BK258 HB hq_;have HO_259000:=n0_;have HO_3:=n1_;have BK246:=n2_;have BK258:=n3_;have HB:=n4_;clear n0_ n1_ n2_ n3_ n4_)))|((with_reducible refine gate_dst (N:=9) rfl ?_);refine box_event ?hg (N:=9) ?hd (cs:=#[.int .i64 0,.int .i64 0,.bool false]) (t:=62) ?hr ?_;(case hd=>rfl);(case hg=>rfl);(case hr=>first|(go_simp;done)|(go_simp;rfl));intro gb261 hg w44 hbox hb;have n0_:=Zz.mk (Kd.V_below (Kd.V_elderB (by (with_reducible repeat (first|apply Kd.V_alloc|apply Kd.V_drewN|apply Kd.V_drew));exact HO_3.out) gb261 (Nat.le_of_eq hg.symm)) hb);have n1_:=Zz.mk (Kd.R_below (Kd.R_elderB (by (with_reducible repeat first|apply Kd.R_alloc|apply Kd.R_drewN|apply Kd.R_drew);exact HO_259000.out) gb261 (Nat.le_of_eq hg.symm)) hb);have n2_:=Zz.mk (bB (g:=gb246) (o:=.cells #[.slice none 0 0] 24 (0,0)) (by (with_reducible repeat first|apply bN|apply bD|apply bA);exact BK246.out) hb);have n3_:=Zz.mk (bB (g:=gb258) (o:=.cells #[u259000] 24 (0,0)) (by (with_reducible repeat first|apply bN|apply bD|apply bA);exact BK258.out) hb);have n4_:=Zz.mk (qP (by repeat (first|(with_reducible first|exact HB.out|apply qA|apply qN|apply q1_|refine qS ?_ GE246.out|refine qS ?_ GE258.out)|exact HB.out)) hb);have n5_:=Zz.mk (hbox);have n6_:=Zz.mk ((by rw [hg];exact (qZ (by repeat (first|(with_reducible first|exact HB.out|apply qA|apply qN|apply q1_|refine qS ?_ GE246.out|refine qS ?_ GE258.out)|exact HB.out))):w.heap.size≤gb261));have n7_:=Zz.mk ((by rw [hg];exact (qZ (by repeat (first|(with_reducible first|exact HB.out|apply qA|apply qN|apply q1_|refine qS ?_ GE246.out|refine qS ?_ GE258.out)|exact HB.out))):w.heap.size≤gb261));have n8_:=Zz.mk ((by rw [hg];exact Nat.ne_of_lt (blk_lt (g:=gb246) (o:=.cells #[.slice none 0 0] 24 (0,0)) (by (with_reducible repeat first|apply bN|apply bD|apply bA);exact BK246.out)):gb246 ≠ gb261));have n9_:=Zz.mk ((by rw [hg];exact Nat.ne_of_gt (blk_lt (g:=gb246) (o:=.cells #[.slice none 0 0] 24 (0,0)) (by (with_reducible repeat first|apply bN|apply bD|apply bA);exact BK246.out)):gb261 ≠ gb246));have n10_:=Zz.mk ((by rw [hg];exact Nat.ne_of_lt (blk_lt (g:=gb258) (o:=.cells #[u259000] 24 (0,0)) (by (with_reducible repeat first|apply bN|apply bD|apply bA);exact BK258.out)):gb258 ≠ gb261));have n11_:=Zz.mk ((by rw [hg];exact Nat.ne_of_gt (blk_lt (g:=gb258) (o:=.cells #[u259000] 24 (0,0)) (by (with_reducible repeat first|apply bN|apply bD|apply bA);exact BK258.out)):gb261 ≠ gb258));clear HO_3;clear HO_259000;clear BK246;clear BK258;clear HB;have HO_3:=n0_;have HO_259000:=n1_;have BK246:=n2_;have BK258:=n3_;have HB:=n4_;have BK261:=n5_;have GW261:=n6_;have GE261:=n7_;have NB246_261:=n8_;have NB261_246:=n9_;have NB258_261:=n10_;have NB261_258:=n11_;clear n0_ n1_ n2_ n3_ n4_ n5_ n6_ n7_ n8_ n9_ n10_ n11_;clear hb hbox hg;have hnb45:=NB261_246.out;have hnc45:=NB246_261.out;have hnb46:=NB261_258.out;have hnc46:=NB258_261.out;have hcz47_0:w44.cell? ⟨gb261,0,none⟩=some (.int .i64 0):=(bC BK261.out 0).trans rfl;have hcz47_1:w44.cell? ⟨gb261,1,none⟩=some (.int .i64 0):=(bC BK261.out 1).trans rfl;have hcz47_2:w44.cell? ⟨gb261,2,none⟩=some (.bool false):=(bC BK261.out 2).trans rfl;have hfz47_0:=bF BK261.out 0;have hfz47_1:=bF BK261.out 1;have hfz47_2:=bF BK261.out 2;have hnb48:=NB258_246.out;have hnc48:=NB246_258.out;have hcz49_0:w44.cell? ⟨gb258,0,none⟩=some (u259000):=(bC BK258.out 0).trans rfl;have hfz49_0:=bF BK258.out 0)|((with_reducible refine gate_builtin (b:=.append) (xs:=#[.tmp 69,.tmp 71]) rfl ?_);at_builtin;refine Kd.R_append k62 (w0:=w) w.heap.size rfl (.tmp 69) (.tmp 71) 22 62 (.agg #[(.int .i64 0),(.int .i64 0),(.bool false)]) 24 rfl Try.underlying22 info62 rfl (by decide) (by omega) u259000 x259000_2 (⟨(-1),(-1),t260⟩:S62) [.int .i64 (-1),.int .i64 (-1),.bool t260] (fun k_=>k_ ≠ gb261) (fun _=>False) rfl (by first|(go_simp;done)|(go_simp;rfl)) ?aP (fun _ hk=>hk.elim) ?aF ?aO ?aB ?aS ?aL ?_;(case aP=>exact k62_mkM _ _ _ (⟨(-1),(-1),t260⟩:S62));(case aB=>exact (by repeat (first|(with_reducible first|exact HB.out|apply qA|apply qN|apply q1_|refine qS ?_ GE246.out|refine qS ?_ GE258.out|refine qS ?_ GE261.out)|exact HB.out)));(case aF=>exact (fun k_ hk=>Kd.freshB (g:=gb261) (o:=.cells #[.int .i64 (-1),.int .i64 (-1),.bool t260] 62 (0,0)) (by (with_reducible repeat first|apply bN|apply bD|apply bA);refine blk_put (cs:=#[.int .i64 (-1),.int .i64 (-1),.bool false]) ?_ 2 _ rfl;(with_reducible repeat first|apply bN|apply bD|apply bA);refine blk_put (cs:=#[.int .i64 (-1),.int .i64 0,.bool false]) ?_ 1 _ rfl;(with_reducible repeat first|apply bN|apply bD|apply bA);refine blk_put (cs:=#[.int .i64 0,.int .i64 0,.bool false]) ?_ 0 _ rfl;(with_reducible repeat first|apply bN|apply bD|apply bA);exact BK261.out) k_ hk));(case aO=>exact (by (with_reducible repeat first|apply Kd.R_alloc|apply Kd.R_drewN|apply Kd.R_drew);exact Kd.R_mono (R_same_ (Kd.R_far (p:=⟨gb261,2,none⟩) (Kd.R_far (p:=⟨gb261,1,none⟩) (Kd.R_far (p:=⟨gb261,0,none⟩) (Kd.R_mono HO_259000.out (fun k_ hk=>(⟨hk,hk.2⟩:_∧k_ ≠ gb261))) (fun _ hk=>hk.2) (.int .i64 (-1))) (fun _ hk=>hk.2) (.int .i64 (-1))) (fun _ hk=>hk.2) (.bool t260)) rfl) (fun _ hk=>hk.1.2)));(case aS=>exact (qZ (by repeat (first|(with_reducible first|exact HB.out|apply qA|apply qN|apply q1_|refine qS ?_ GE246.out|refine qS ?_ GE258.out|refine qS ?_ GE261.out)|exact HB.out))));(case aL=>have:=LMc42.out;omega);intro v267 w50 ho hb hg hat;rw [← Ny266.out] at ho;have n0_:=Zz.mk (Kd.V_afterv (ok:=(fun k_=>k_ ≠ gb246∧k_ ≠ gb258∧k_ ≠ gb261)) (by (with_reducible repeat (first|apply Kd.V_alloc|apply Kd.V_drewN|apply Kd.V_drew));exact Kd.V_mono (V_same_ (Kd.V_far (p:=⟨gb261,2,none⟩) (Kd.V_far (p:=⟨gb261,1,none⟩) (Kd.V_far (p:=⟨gb261,0,none⟩) (Kd.V_mono HO_3.out (fun k_ hk=>(⟨hk,hk.2⟩:_∧k_ ≠ gb261))) (fun _ hk=>hk.2) (.int .i64 (-1))) (fun _ hk=>hk.2) (.int .i64 (-1))) (fun _ hk=>hk.2) (.bool t260)) rfl) (fun _ hk=>⟨⟨hk.1.1.2.1,⟨hk.1.1.2.2,hk.1.2⟩⟩,hk.1.1.1⟩)) hg hat);have n1_:=Zz.mk (blk_grown (g:=gb246) (o:=.cells #[.slice none 0 0] 24 (0,0)) (by (with_reducible repeat first|apply bN|apply bD|apply bA);refine blk_far ?_ NB246_261.out _;(with_reducible repeat first|apply bN|apply bD|apply bA);refine blk_far ?_ NB246_261.out _;(with_reducible repeat first|apply bN|apply bD|apply bA);refine blk_far ?_ NB246_261.out _;(with_reducible repeat first|apply bN|apply bD|apply bA);exact BK246.out) hg (Kd.R_ne HO_259000.out BK246.out (by decide)));have n2_:=Zz.mk (blk_grown (g:=gb258) (o:=.cells #[u259000] 24 (0,0)) (by (with_reducible repeat first|apply bN|apply bD|apply bA);refine blk_far ?_ NB258_261.out _;(with_reducible repeat first|apply bN|apply bD|apply bA);refine blk_far ?_ NB258_261.out _;(with_reducible repeat first|apply bN|apply bD|apply bA);refine blk_far ?_ NB258_261.out _;(with_reducible repeat first|apply bN|apply bD|apply bA);exact BK258.out) hg (Kd.R_ne HO_259000.out BK258.out (by decide)));have n3_:=Zz.mk (blk_grown (g:=gb261) (o:=.cells #[.int .i64 (-1),.int .i64 (-1),.bool t260] 62 (0,0)) (by (with_reducible repeat first|apply bN|apply bD|apply bA);refine blk_put (cs:=#[.int .i64 (-1),.int .i64 (-1),.bool false]) ?_ 2 _ rfl;(with_reducible repeat first|apply bN|apply bD|apply bA);refine blk_put (cs:=#[.int .i64 (-1),.int .i64 0,.bool false]) ?_ 1 _ rfl;(with_reducible repeat first|apply bN|apply bD|apply bA);refine blk_put (cs:=#[.int .i64 0,.int .i64 0,.bool false]) ?_ 0 _ rfl;(with_reducible repeat first|apply bN|apply bD|apply bA);exact BK261.out) hg (Kd.R_away HO_259000.out (fun _ hk=>hk.2)));have n4_:=Zz.mk (hb);have n5_:=Zz.mk (ho);clear HO_3;clear BK246;clear BK258;clear BK261;clear HB;clear HO_259000;have HO_3:=n0_;have BK246:=n1_;have BK258:=n2_;have BK261:=n3_;have HB:=n4_;have HO268:=n5_;clear n0_ n1_ n2_ n3_ n4_ n5_;clear ho hb hg hat;obtain ⟨Ao51,co51,eo51⟩:=Kd.R_slice HO268.out;subst eo51;have hcz52_0:w50.cell? ⟨gb258,0,none⟩=some (u259000):=(bC BK258.out 0).trans rfl;have hfz52_0:=bF BK258.out 0))
          go_roundg k2
          case measure=>have:=HK1.out;have:=HK2.out;omega
          case rel=>exact ⟨(wrap64 (x7_2+1)),(y266),(.slice Ao51 y266.length co51),(by first|rfl|(simp;done)|(simp [*];done)),H',⟨by have:=HK1.out;have:=HK2.out;omega⟩,⟨by (with_reducible repeat (first|apply Kd.V_alloc|apply Kd.V_drewN|apply Kd.V_drew));exact Kd.V_mono (V_same_ (Kd.V_far (p:=⟨gb258,0,none⟩) (Kd.V_mono HO_3.out (fun k_ hk=>(⟨hk,hk.1.2.1⟩:_∧k_ ≠ gb258))) (fun _ hk=>hk.2) (.slice Ao51 y266.length co51)) rfl) (fun _ hk=>⟨hk.1.2,⟨hk.1.1.1,hk.1.1.2.1⟩⟩)⟩,⟨by (with_reducible repeat first|apply Kd.R_alloc|apply Kd.R_drewN|apply Kd.R_drew);exact Kd.R_mono (R_same_ (Kd.R_far (p:=⟨gb258,0,none⟩) (Kd.R_types HO268.out BK258.out (by decide)) (fun _ hk=>hk.2) (.slice Ao51 y266.length co51)) rfl) (fun _ hk=>trivial)⟩,⟨by (with_reducible repeat first|apply bN|apply bD|apply bA);refine blk_far ?_ NB246_258.out _;(with_reducible repeat first|apply bN|apply bD|apply bA);exact BK246.out⟩,⟨by (with_reducible repeat first|apply bN|apply bD|apply bA);refine blk_put (cs:=#[u259000]) ?_ 0 _ rfl;(with_reducible repeat first|apply bN|apply bD|apply bA);exact BK258.out⟩,⟨by repeat (first|(with_reducible first|exact HB.out|apply qA|apply qN|apply q1_|refine qS ?_ GE246.out|refine qS ?_ GE258.out|refine qS ?_ GE261.out)|exact HB.out)⟩⟩
         ·rw [if_neg c42] at H
          exact absurd H (by simp)
       ·rw [if_neg c21] at H
        exact absurd H (by simp)
      ·rw [if_neg c20] at H
       have c20b0:decide (x7_2<(x3_1.length:Int))=false:=decide_eq_false c20
       clear c20
       obtain rfl:=Option.some.inj H
       obtain ⟨Ao53,co53,eo53⟩:=Kd.V_slice HO_3.out
       subst eo53
       have hnb54:=NB258_246.out
       have hnc54:=NB246_258.out
       have hcz55_0:wr.cell? ⟨gb258,0,none⟩=some (u259000):=(bC BK258.out 0).trans rfl
       have hfz55_0:=bF BK258.out 0
       obtain ⟨Ao56,co56,eo56⟩:=Kd.R_slice HO_259000.out
       subst eo56
       have hcz57_0:wr.cell? ⟨gb246,0,none⟩=some (.slice none 0 0):=(bC BK246.out 0).trans rfl
       have hfz57_0:=bF BK246.out 0
       go_wp2
       refine bodyPost_ret (results_cell_row rfl _ _ gb246 24 #[.slice Ao56 x259000_2.length co56] (0,0) _ rfl (by (with_reducible repeat first|apply bN|apply bD|apply bA);refine blk_put (cs:=#[.slice none 0 0]) ?_ 0 _ rfl;(with_reducible repeat first|apply bN|apply bD|apply bA);exact BK246.out) Try.underlying24 rfl (by kernel_rfl)) rfl ?_
       exact ⟨_,by first|rfl|(simp [errW_none,errW_some] <;> rfl)|(simp [*,errW_none,errW_some] <;> rfl),by (with_reducible repeat first|apply Kd.R_alloc|apply Kd.R_drewN|apply Kd.R_drew);exact Kd.R_mono (R_same_ (Kd.R_far (p:=⟨gb246,0,none⟩) (Kd.R_types HO_259000.out BK246.out (by decide)) (fun _ hk=>hk.2) (.slice Ao56 x259000_2.length co56)) rfl) (fun _ hk=>trivial),by repeat (first|(with_reducible first|exact HB.out|apply qA|apply qN|apply q1_|refine qS ?_ GE246.out|refine qS ?_ GE258.out)|exact HB.out)⟩
def spec_l1In.f (a0:Int) (a1:Int) (a2:Int):Option (Bool):=if a0 ≥ a1 then (some (decide (a0≤a2))) else (some false)
set_option maxHeartbeats 8000000 in
set_option maxRecDepth 100000 in
theorem spec_l1In.calls (a0:Int) (a1:Int) (a2:Int) (r:Bool) (w:World) (h:spec_l1In.f a0 a1 a2=some r) :
  Calls Try.prog 40 #[.int .i64 a0,.int .i64 a1,.int .i64 a2] w fun e w'=>e=.returned (.bool r)∧Drawn0 w w':=by
 have H:(if a0 ≥ a1 then (some (decide (a0≤a2))) else (some false))=some r:=h
 clear h
 by_cases c4:a0 ≥ a1
 ·rw [if_pos c4] at H
  have c4b0:decide (a1≤a0)=true:=decide_eq_true c4
  clear c4
  obtain rfl:=Option.some.inj H
  go_enter Try.func40,Try.ntmps40
  go_wp2
  go_ret
  exact ⟨by first|rfl|(simp;done)|(simp [*];done),by repeat (first|exact Drawn0.refl _|apply Drawn0.step)⟩
 ·rw [if_neg c4] at H
  have c4b0:decide (a1≤a0)=false:=decide_eq_false c4
  clear c4
  obtain rfl:=Option.some.inj H
  go_enter Try.func40,Try.ntmps40
  go_wp2
  go_ret
  exact ⟨by first|rfl|(simp;done)|(simp [*];done),by repeat (first|exact Drawn0.refl _|apply Drawn0.step)⟩
end Go.Proofs.Ytghkbgmbbcaecaa.Q
