import Derived.Test.YtadpmgdmiaoniaaGreatDoorB0
import Derived.Test.YtadpmgdmiaoniaaGreatDoorB1
import Derived.Test.YtadpmgdmiaoniaaGreatDoorB2
import Derived.Test.YtadpmgdmiaoniaaGreatDoorB3
import Derived.Test.YtadpmgdmiaoniaaGreatDoorB4
import Derived.Test.YtadpmgdmiaoniaaGreatDoorBwWords
import Derived.Test.YtadpmgdmiaoniaaGreatDoorBwLast
import Derived.Test.YtadpmgdmiaoniaaGreatDoorBwTab
import Derived.Test.YtadpmgdmiaoniaaGreatDoorBwApart
import Derived.Test.YtadpmgdmiaoniaaGreatDoorBwFoot
import Derived.Test.YtadpmgdmiaoniaaGreatDoorBwKept
import Derived.Test.YtadpmgdmiaoniaaGreatDoorBwShare
import Derived.Test.YtadpmgdmiaoniaaGreatDoorBwN
import Derived.Test.YtadpmgdmiaoniaaGreatDoorBwAt
import Derived.Test.YtadpmgdmiaoniaaGreatDoorBwEqStruct
import Derived.Test.YtadpmgdmiaoniaaGreatDoorBwRepsOne
import Derived.Test.YtadpmgdmiaoniaaGreatDoorBwGuard
import Derived.Test.YtadpmgdmiaoniaaGreatDoorBwMore
import Derived.Test.YtadpmgdmiaoniaaGreatDoorProg
import Derived.Below
import Derived.Deep.Draws
import Derived.Deep.AppendLies
import Derived.Maps.AppendAt
import Derived.OwnWalk
import Derived.Laws.BytesArg
import Derived.Laws.MakeOwn
import Derived.Laws.OwnMore
import Derived.Deep.OwnRows
import Derived.Tactics
import Derived.Lib.ConvBytes
import Derived.Laws.Slices
import Derived.WalkKit
import Derived.KernelRfl
import Derived.RowKit3
import Derived.Deep.LoopGhost
import Derived.Deep.QuietTactic
import Derived.BigQuiet
import Derived.WideLaws
import Derived.Deep.DeepCutAuto
import Derived.Deep.CutBlock
import Derived.Deep.RegionHeld3
import Derived.Laws.Rows
import Derived.Lib.AppendStr
import Derived.ArgAppend
import Derived.Laws.IdiomCopy
import Derived.OrdersHeld
import Derived.Laws.BitsLemmas
import Derived.RowKit
import Derived.Shelf.RegionOpen
import Derived.Sort.QuietIn
import Derived.Sort.Walk0
import Derived.Lib.Strings
import Derived.Lib.SlicesCompact
import Derived.Shelf.Strings.SlTrimAscii
import Derived.Ground.NamesProg
import Derived.Ground.SlgfProg
import Derived.Maps.Own
import Derived.StringKeys
import Derived.Maps.OwnOps
import Derived.Maps.OwnSet
import Derived.Maps.Views
import Derived.Laws.AppendOwn
import Derived.Deep.DrawnRows
import Derived.Shelf.Sort.Plain
import Derived.Shelf.Slices.CompactS
import Derived.Shelf.Slices.In.SortNone
import Derived.RangeFuncBox
import Derived.RangeFuncLeaves
import Derived.Shelf.Abstract
import Derived.OwnWalkIn
import Derived.TacticsInMore
import Derived.LoopNIn
import Derived.LoopIn
import Derived.Lib.OwnBridge
import Derived.Sort.OwnSorted
import Derived.Sort.Grow
import Derived.Shelf.Strings.OnBuilder
import Derived.Shelf.SlicesE.DeleteFunc
import Derived.Lib.SliceRun
import Derived.Sort.OwnSortedInts
import Derived.Deep.Slices
import Derived.Deep.Fields
import Derived.ChangeSame
import Derived.ChangeArms
import Derived.WideShapes
import Derived.Test.YtadpmgdmiaoniaaGreatDoorRows
import Derived.Test.YtadpmgdmiaoniaaGreatDoorTie
import Derived.Test.YtadpmgdmiaoniaaGreatDoorCards
import Derived.ProofKit
import Derived.OpenShut
import Derived.ShutString
import Derived.ChangeOld
import Derived.SizedLaws
import Derived.Carry
import Derived.LaidMore
import Derived.Lay
import Derived.SevenTiedAt
import Derived.Stop.Joined
set_option linter.unusedVariables false
set_option linter.unusedSimpArgs false
namespace Go.Proofs.YtadpmgdmiaoniaaGreatDoor.Q
open Go.RowKit Go.Proofs.YtadpmgdmiaoniaaGreatDoorW.PrintWords Go.Proofs.YtadpmgdmiaoniaaGreatDoorW.PrintLast Go.Proofs.YtadpmgdmiaoniaaGreatDoorW.PrintMore
attribute [local go_sem] run_field_23 run_field_24 run_field_30 run_field_31 isSome_setCell max2_int min2_int max_two min_two max_three min_three max_four min_four   -- for this text's walks alone
set_option linter.unusedVariables false
set_option linter.unusedSimpArgs false
mutual
def laws_FnExactBestSplit.j0:Nat→ByteArray→List ByteArray→Bool→List ByteArray→Bool→Bool→List (S75)→List (S70)→Option (Bool)
  | 0,_,_,_,_,_,_,_,_=>none
  | k+1,x1,x6,x7,x9,x10,x47,x533000,x545000=>if x47=true then (some false) else ((laws_toTrie.f k x533000).bind fun t550=>((laws_eqTrie.f k x545000 t550).bind fun t553=>(if t553=true then ((laws_markTrie.f k x545000 1).bind fun bt554=>(if bt554.1<0 then (laws_FnExactBestSplit.j1 k x1 x6 x7 x9 true x533000) else ((laws_eqStringS.f k x9 x6).bind fun t556=>(if t556=true then (laws_FnExactBestSplit.j1 k x1 x6 x7 x9 (x10 != x7) x533000) else (laws_FnExactBestSplit.j1 k x1 x6 x7 x9 true x533000))))) else (some false))))
def laws_FnExactBestSplit.j1:Nat→ByteArray→List ByteArray→Bool→List ByteArray→Bool→List (S75)→Option (Bool)
  | 0,_,_,_,_,_,_=>none
  | k+1,x1,x6,x7,x9,x68,x533000=>if x68=true then (some false) else ((laws_markStringS.f k x9 1).bind fun bt557=>((laws_heldStringS.f k bt557.2 1).bind fun t559=>(if t559<0 then (some false) else (if t559=bt557.1 then ((laws_toTrie.f k x533000).bind fun t560=>((impl_BestSplit.f t560 x1).bind fun bt563=>((laws_eqStringS.f k bt563.1 x6).bind fun t567=>(if t567=true then (laws_FnExactBestSplit.j2 k bt557.2 bt557.1 (bt563.2 != x7)) else (laws_FnExactBestSplit.j2 k bt557.2 bt557.1 true))))) else (some false)))))
def laws_FnExactBestSplit.j2:Nat→List ByteArray→Int→Bool→Option (Bool)
  | 0,_,_,_=>none
  | k+1,x9,x12,x95=>if x95=true then (some false) else ((laws_heldStringS.f k x9 1).bind fun t568=>(if t568<0 then (some false) else (if t568=x12 then (some true) else (some false))))
end
def laws_FnExactBestSplit.f (k:Nat) (l0_0:List (S75)) (a1:ByteArray):Option (Bool):=if (a1.size:Int) > 1048576 then (some true) else ((laws_szTrie.f l0_0 1048576).bind fun t533=>(if t533<0 then (some true) else ((laws_toTrie.f k l0_0).bind fun t534=>((spec_BestSplit.f k t534 a1).bind fun bt537=>((laws_toTrie.f k l0_0).bind fun t541=>((impl_BestSplit.f t541 a1).bind fun bt545=>((laws_eqStringS.f k bt545.1 bt537.1).bind fun t549=>(if t549=true then (laws_FnExactBestSplit.j0 k a1 bt537.1 bt537.2 bt545.1 bt545.2 (bt545.2 != bt537.2) l0_0 t541) else (laws_FnExactBestSplit.j0 k a1 bt537.1 bt537.2 bt545.1 bt545.2 true l0_0 t541)))))))))
set_option maxHeartbeats 8000000 in
set_option maxRecDepth 100000 in
theorem laws_FnExactBestSplit.calls (k:Nat) (A0_0:Option Addr) (c0_0:Nat) (l0_0:List (S75)) (a1:ByteArray) (r:Bool) (w:World) (hr0_0:Kd.C k75 w A0_0 l0_0.length l0_0) (hc0_0:l0_0.length≤c0_0) (h:laws_FnExactBestSplit.f k l0_0 a1=some true) :
  Calls Tryz.prog 5 #[.agg #[.slice A0_0 l0_0.length c0_0],.string a1] w fun e w'=>e=.returned (.bool true)∧Below w.heap.size w w':=by
 have hu24:=Tryz.underlying24
 have hu31:=Tryz.underlying31
 have HR0_0:=Zz.mk hr0_0
 have HC0_0:=Zz.mk hc0_0
 clear hr0_0 hc0_0
 have HB:=Zz.mk (Below.refl w.heap.size w)
 have H:(if (a1.size:Int) > 1048576 then (some true) else ((laws_szTrie.f l0_0 1048576).bind fun t533=>(if t533<0 then (some true) else ((laws_toTrie.f k l0_0).bind fun t534=>((spec_BestSplit.f k t534 a1).bind fun bt537=>((laws_toTrie.f k l0_0).bind fun t541=>((impl_BestSplit.f t541 a1).bind fun bt545=>((laws_eqStringS.f k bt545.1 bt537.1).bind fun t549=>(if t549=true then (laws_FnExactBestSplit.j0 k a1 bt537.1 bt537.2 bt545.1 bt545.2 (bt545.2 != bt537.2) l0_0 t541) else (laws_FnExactBestSplit.j0 k a1 bt537.1 bt537.2 bt545.1 bt545.2 true l0_0 t541))))))))))=some true:=h
 clear h
 by_cases c3:(a1.size:Int) > 1048576
 ·rw [if_pos c3] at H
  have c3b0:decide (1048576<(a1.size:Int))=true:=decide_eq_true c3
  have c3b1:decide (1048576<a1.size)=true:=decide_eq_true (by omega)
  clear c3
  (first|(obtain rfl:=Option.some.inj H)|(have hH_:=Option.some.inj H;try simp only [hH_]))
  go_enter Tryz.func5,Tryz.ntmps5
  go_wp2_with (first|((with_reducible refine gate_dst (N:=2) rfl ?_);refine box_event ?hg (N:=2) ?hd (cs:=#[.slice A0_0 l0_0.length c0_0]) (t:=24) ?hr ?_;(case hd=>rfl);(case hg=>rfl);(case hr=>first|(go_simp;done)|(go_simp;rfl));intro gb532 hg w4 hbox hb;have n0_:=Zz.mk (qP (by repeat (first|(with_reducible first|exact HB.out|apply qA|apply qN|apply q1_)|exact HB.out)) hb);have n1_:=Zz.mk (hbox);have n2_:=Zz.mk ((by rw [hg];exact (qZ (by repeat (first|(with_reducible first|exact HB.out|apply qA|apply qN|apply q1_)|exact HB.out))):w.heap.size≤gb532));have n3_:=Zz.mk ((by rw [hg];exact (qZ (by repeat (first|(with_reducible first|exact HB.out|apply qA|apply qN|apply q1_)|exact HB.out))):w.heap.size≤gb532));clear HB;have HB:=n0_;have BK532:=n1_;have GW532:=n2_;have GE532:=n3_;clear n0_ n1_ n2_ n3_;clear hb hbox hg))
  go_ret
  exact ⟨by first|rfl|(simp [errW_none,errW_some] <;> rfl)|(simp [*,errW_none,errW_some] <;> rfl),by repeat (first|(with_reducible first|exact HB.out|apply qA|apply qN|apply q1_|refine qS ?_ GE532.out)|exact HB.out)⟩
 ·rw [if_neg c3] at H
  have c3b0:decide (1048576<(a1.size:Int))=false:=decide_eq_false c3
  have c3b1:decide (1048576<a1.size)=false:=decide_eq_false (by omega)
  clear c3
  replace H:=Option.bind_eq_some_iff.mp H
  obtain ⟨t533,A50,H⟩:=H
  replace H:(if t533<0 then (some true) else ((laws_toTrie.f k l0_0).bind fun t534=>((spec_BestSplit.f k t534 a1).bind fun bt537=>((laws_toTrie.f k l0_0).bind fun t541=>((impl_BestSplit.f t541 a1).bind fun bt545=>((laws_eqStringS.f k bt545.1 bt537.1).bind fun t549=>(if t549=true then (laws_FnExactBestSplit.j0 k a1 bt537.1 bt537.2 bt545.1 bt545.2 (bt545.2 != bt537.2) l0_0 t541) else (laws_FnExactBestSplit.j0 k a1 bt537.1 bt537.2 bt545.1 bt545.2 true l0_0 t541))))))))=some true:=H
  have A5:=Zz.mk A50
  clear A50
  by_cases c6:t533<0
  ·rw [if_pos c6] at H
   have c6b0:decide (t533<0)=true:=decide_eq_true c6
   clear c6
   (first|(obtain rfl:=Option.some.inj H)|(have hH_:=Option.some.inj H;try simp only [hH_]))
   go_enter Tryz.func5,Tryz.ntmps5
   go_wp2_with (first|((with_reducible refine gate_dst (N:=2) rfl ?_);refine box_event ?hg (N:=2) ?hd (cs:=#[.slice A0_0 l0_0.length c0_0]) (t:=24) ?hr ?_;(case hd=>rfl);(case hg=>rfl);(case hr=>first|(go_simp;done)|(go_simp;rfl));intro gb532 hg w7 hbox hb;have n0_:=Zz.mk (qP (by repeat (first|(with_reducible first|exact HB.out|apply qA|apply qN|apply q1_)|exact HB.out)) hb);have n1_:=Zz.mk (hbox);have n2_:=Zz.mk ((by rw [hg];exact (qZ (by repeat (first|(with_reducible first|exact HB.out|apply qA|apply qN|apply q1_)|exact HB.out))):w.heap.size≤gb532));have n3_:=Zz.mk ((by rw [hg];exact (qZ (by repeat (first|(with_reducible first|exact HB.out|apply qA|apply qN|apply q1_)|exact HB.out))):w.heap.size≤gb532));clear HB;have HB:=n0_;have BK532:=n1_;have GW532:=n2_;have GE532:=n3_;clear n0_ n1_ n2_ n3_;clear hb hbox hg;have hcz8_0:w7.cell? ⟨gb532,0,none⟩=some (.slice A0_0 l0_0.length c0_0):=(bC BK532.out 0).trans rfl;have hfz8_0:=bF BK532.out 0)|((with_reducible refine gate_callee (f:=6) rfl ?_);refine goesL_ (some 21) rfl rfl Tryz.func6 (by kernel_rfl) rfl #[.agg #[.slice A0_0 l0_0.length c0_0],.int .i64 1048576] rfl (by (try simp only [List.map_toArray,List.map_cons,List.map_nil]);first|done|rfl|(simp only [List.length_drop,List.length_take];rfl)) ?_;(with_reducible refine (laws_szTrie.calls _ _ l0_0 1048576 t533 _ ?side1 ?side2 A5.out).mono ?_);(case side1=>repeat (first|exact (Kd.C_below HR0_0.out HB.out)|(with_reducible refine Kd.C_alloc ?_ _)|(with_reducible refine Kd.C_drewN ?_ _)|(with_reducible refine Kd.C_drew ?_)));(case side2=>exact HC0_0.out);rintro e w9 ⟨rfl,hb⟩;refine ⟨_,rfl,?_⟩;have n0_:=Zz.mk (bB (g:=gb532) (o:=.cells #[.slice A0_0 l0_0.length c0_0] 24 (0,0)) (by (with_reducible repeat first|apply bN|apply bD|apply bA);exact BK532.out) hb);have n1_:=Zz.mk (qP (by repeat (first|(with_reducible first|exact HB.out|apply qA|apply qN|apply q1_|refine qS ?_ GE532.out)|exact HB.out)) hb);clear BK532;clear HB;have BK532:=n0_;have HB:=n1_;clear n0_ n1_;(try clear hb);(try clear hb2);(try clear hk);(try clear hi)))
   go_ret
   exact ⟨by first|rfl|(simp [errW_none,errW_some] <;> rfl)|(simp [*,errW_none,errW_some] <;> rfl),by repeat (first|(with_reducible first|exact HB.out|apply qA|apply qN|apply q1_|refine qS ?_ GE532.out)|exact HB.out)⟩
  ·rw [if_neg c6] at H
   have c6b0:decide (t533<0)=false:=decide_eq_false c6
   clear c6
   replace H:=Option.bind_eq_some_iff.mp H
   obtain ⟨t534,A100,H⟩:=H
   replace H:((spec_BestSplit.f k t534 a1).bind fun bt537=>((laws_toTrie.f k l0_0).bind fun t541=>((impl_BestSplit.f t541 a1).bind fun bt545=>((laws_eqStringS.f k bt545.1 bt537.1).bind fun t549=>(if t549=true then (laws_FnExactBestSplit.j0 k a1 bt537.1 bt537.2 bt545.1 bt545.2 (bt545.2 != bt537.2) l0_0 t541) else (laws_FnExactBestSplit.j0 k a1 bt537.1 bt537.2 bt545.1 bt545.2 true l0_0 t541))))))=some true:=H
   have A10:=Zz.mk A100
   clear A100
   replace H:=Option.bind_eq_some_iff.mp H
   obtain ⟨⟨t537,t540⟩,A110,H⟩:=H
   replace H:((laws_toTrie.f k l0_0).bind fun t541=>((impl_BestSplit.f t541 a1).bind fun bt545=>((laws_eqStringS.f k bt545.1 t537).bind fun t549=>(if t549=true then (laws_FnExactBestSplit.j0 k a1 t537 t540 bt545.1 bt545.2 (bt545.2 != t540) l0_0 t541) else (laws_FnExactBestSplit.j0 k a1 t537 t540 bt545.1 bt545.2 true l0_0 t541)))))=some true:=H
   have A11:=Zz.mk A110
   clear A110
   replace H:=Option.bind_eq_some_iff.mp H
   obtain ⟨t541,A120,H⟩:=H
   replace H:((impl_BestSplit.f t541 a1).bind fun bt545=>((laws_eqStringS.f k bt545.1 t537).bind fun t549=>(if t549=true then (laws_FnExactBestSplit.j0 k a1 t537 t540 bt545.1 bt545.2 (bt545.2 != t540) l0_0 t541) else (laws_FnExactBestSplit.j0 k a1 t537 t540 bt545.1 bt545.2 true l0_0 t541))))=some true:=H
   have A12:=Zz.mk A120
   clear A120
   replace H:=Option.bind_eq_some_iff.mp H
   obtain ⟨⟨t545,t548⟩,A130,H⟩:=H
   replace H:((laws_eqStringS.f k t545 t537).bind fun t549=>(if t549=true then (laws_FnExactBestSplit.j0 k a1 t537 t540 t545 t548 (t548 != t540) l0_0 t541) else (laws_FnExactBestSplit.j0 k a1 t537 t540 t545 t548 true l0_0 t541)))=some true:=H
   have A13:=Zz.mk A130
   clear A130
   have HC14:=Zz.mk H
   clear H
   go_enter Tryz.func5,Tryz.ntmps5
   go_upto_region 10 with (first|((with_reducible refine gate_dst (N:=2) rfl ?_);refine box_event ?hg (N:=2) ?hd (cs:=#[.slice A0_0 l0_0.length c0_0]) (t:=24) ?hr ?_;(case hd=>rfl);(case hg=>rfl);(case hr=>first|(go_simp;done)|(go_simp;rfl));intro gb532 hg w15 hbox hb;have n0_:=Zz.mk (qP (by repeat (first|(with_reducible first|exact HB.out|apply qA|apply qN|apply q1_)|exact HB.out)) hb);have n1_:=Zz.mk (hbox);have n2_:=Zz.mk ((by rw [hg];exact (qZ (by repeat (first|(with_reducible first|exact HB.out|apply qA|apply qN|apply q1_)|exact HB.out))):w.heap.size≤gb532));have n3_:=Zz.mk ((by rw [hg];exact (qZ (by repeat (first|(with_reducible first|exact HB.out|apply qA|apply qN|apply q1_)|exact HB.out))):w.heap.size≤gb532));clear HB;have HB:=n0_;have BK532:=n1_;have GW532:=n2_;have GE532:=n3_;clear n0_ n1_ n2_ n3_;clear hb hbox hg;have hcz16_0:w15.cell? ⟨gb532,0,none⟩=some (.slice A0_0 l0_0.length c0_0):=(bC BK532.out 0).trans rfl;have hfz16_0:=bF BK532.out 0)|((with_reducible refine gate_callee (f:=6) rfl ?_);refine goesL_ (some 21) rfl rfl Tryz.func6 (by kernel_rfl) rfl #[.agg #[.slice A0_0 l0_0.length c0_0],.int .i64 1048576] rfl (by (try simp only [List.map_toArray,List.map_cons,List.map_nil]);first|done|rfl|(simp only [List.length_drop,List.length_take];rfl)) ?_;(with_reducible refine (laws_szTrie.calls _ _ l0_0 1048576 t533 _ ?side1 ?side2 A5.out).mono ?_);(case side1=>repeat (first|exact (Kd.C_below HR0_0.out HB.out)|(with_reducible refine Kd.C_alloc ?_ _)|(with_reducible refine Kd.C_drewN ?_ _)|(with_reducible refine Kd.C_drew ?_)));(case side2=>exact HC0_0.out);rintro e w17 ⟨rfl,hb⟩;refine ⟨_,rfl,?_⟩;have n0_:=Zz.mk (bB (g:=gb532) (o:=.cells #[.slice A0_0 l0_0.length c0_0] 24 (0,0)) (by (with_reducible repeat first|apply bN|apply bD|apply bA);exact BK532.out) hb);have n1_:=Zz.mk (qP (by repeat (first|(with_reducible first|exact HB.out|apply qA|apply qN|apply q1_|refine qS ?_ GE532.out)|exact HB.out)) hb);clear BK532;clear HB;have BK532:=n0_;have HB:=n1_;clear n0_ n1_;(try clear hb);(try clear hb2);(try clear hk);(try clear hi);have hcz18_0:w17.cell? ⟨gb532,0,none⟩=some (.slice A0_0 l0_0.length c0_0):=(bC BK532.out 0).trans rfl;have hfz18_0:=bF BK532.out 0)|((with_reducible refine gate_callee (f:=8) rfl ?_);refine goesL_ (some 26) rfl rfl Tryz.func8 (by kernel_rfl) rfl #[.agg #[.slice A0_0 l0_0.length c0_0]] rfl (by (try simp only [List.map_toArray,List.map_cons,List.map_nil]);first|done|rfl|(simp only [List.length_drop,List.length_take];rfl)) ?_;(with_reducible refine (laws_toTrie.calls k _ _ l0_0 t534 _ ?side1 ?side2 A10.out).mono ?_);(case side1=>repeat (first|exact (Kd.C_below HR0_0.out HB.out)|(with_reducible refine Kd.C_alloc ?_ _)|(with_reducible refine Kd.C_drewN ?_ _)|(with_reducible refine Kd.C_drew ?_)));(case side2=>exact HC0_0.out);rintro e w19 ⟨v535,rfl,ho0,hb⟩;refine ⟨_,rfl,?_⟩;have n0_:=Zz.mk (Kd.R_lower ho0 (qZ (by repeat (first|(with_reducible first|exact HB.out|apply qA|apply qN|apply q1_|refine qS ?_ GE532.out)|exact HB.out))));have n1_:=Zz.mk (bB (g:=gb532) (o:=.cells #[.slice A0_0 l0_0.length c0_0] 24 (0,0)) (by (with_reducible repeat first|apply bN|apply bD|apply bA);exact BK532.out) hb);have n2_:=Zz.mk (qP (by repeat (first|(with_reducible first|exact HB.out|apply qA|apply qN|apply q1_|refine qS ?_ GE532.out)|exact HB.out)) hb);clear BK532;clear HB;have HO536:=n0_;have BK532:=n1_;have HB:=n2_;clear n0_ n1_ n2_;(try clear hb);(try clear hb2);(try clear hk);(try clear hi);(try clear ho0);obtain ⟨Ao20,co20,eo20⟩:=Kd.R_slice HO536.out;subst eo20)|((with_reducible refine gate_callee (f:=20) rfl ?_);refine goesL_ (some 28) rfl rfl Tryz.func20 (by kernel_rfl) rfl #[.agg #[.slice Ao20 t534.length co20],.string a1] rfl (by (try simp only [List.map_toArray,List.map_cons,List.map_nil]);first|done|rfl|(simp only [List.length_drop,List.length_take];rfl)) ?_;(with_reducible refine (spec_BestSplit.calls k _ _ t534 a1 t537 t540 _ ?side1 ?side2 A11.out).mono ?_);(case side1=>repeat (first|exact (Kd.R_reads' HO536.out).2.2|(with_reducible refine Kd.C_alloc ?_ _)|(with_reducible refine Kd.C_drewN ?_ _)|(with_reducible refine Kd.C_drew ?_)));(case side2=>exact (Kd.R_reads' HO536.out).2.1);rintro e w21 ⟨v538,rfl,ho0,hb⟩;refine ⟨_,rfl,?_⟩;have n0_:=Zz.mk (Kd.R_below (by (with_reducible repeat first|apply Kd.R_alloc|apply Kd.R_drewN|apply Kd.R_drew);exact HO536.out) hb);have n1_:=Zz.mk (Kd.R_lower ho0 (qZ (by repeat (first|(with_reducible first|exact HB.out|apply qA|apply qN|apply q1_|refine qS ?_ GE532.out)|exact HB.out))));have n2_:=Zz.mk (bB (g:=gb532) (o:=.cells #[.slice A0_0 l0_0.length c0_0] 24 (0,0)) (by (with_reducible repeat first|apply bN|apply bD|apply bA);exact BK532.out) hb);have n3_:=Zz.mk (qP (by repeat (first|(with_reducible first|exact HB.out|apply qA|apply qN|apply q1_|refine qS ?_ GE532.out)|exact HB.out)) hb);clear HO536;clear BK532;clear HB;have HO536:=n0_;have HO539:=n1_;have BK532:=n2_;have HB:=n3_;clear n0_ n1_ n2_ n3_;(try clear hb);(try clear hb2);(try clear hk);(try clear hi);(try clear ho0);have hcz22_0:w21.cell? ⟨gb532,0,none⟩=some (.slice A0_0 l0_0.length c0_0):=(bC BK532.out 0).trans rfl;have hfz22_0:=bF BK532.out 0)|((with_reducible refine gate_callee (f:=8) rfl ?_);refine goesL_ (some 32) rfl rfl Tryz.func8 (by kernel_rfl) rfl #[.agg #[.slice A0_0 l0_0.length c0_0]] rfl (by (try simp only [List.map_toArray,List.map_cons,List.map_nil]);first|done|rfl|(simp only [List.length_drop,List.length_take];rfl)) ?_;(with_reducible refine (laws_toTrie.calls k _ _ l0_0 t541 _ ?side1 ?side2 A12.out).mono ?_);(case side1=>repeat (first|exact (Kd.C_below HR0_0.out HB.out)|(with_reducible refine Kd.C_alloc ?_ _)|(with_reducible refine Kd.C_drewN ?_ _)|(with_reducible refine Kd.C_drew ?_)));(case side2=>exact HC0_0.out);rintro e w23 ⟨v542,rfl,ho0,hb⟩;refine ⟨_,rfl,?_⟩;have n0_:=Zz.mk (Kd.R_elder' (by (with_reducible repeat first|apply Kd.R_alloc|apply Kd.R_drewN|apply Kd.R_drew);exact HO536.out) (Kd.R_base ho0) hb);have n1_:=Zz.mk (Kd.R_below (by (with_reducible repeat first|apply Kd.R_alloc|apply Kd.R_drewN|apply Kd.R_drew);exact HO539.out) hb);have n2_:=Zz.mk (Kd.R_lower (Kd.R_new' ho0 (Kd.R_lt (by (with_reducible repeat first|apply Kd.R_alloc|apply Kd.R_drewN|apply Kd.R_drew);exact HO536.out))) (qZ (by repeat (first|(with_reducible first|exact HB.out|apply qA|apply qN|apply q1_|refine qS ?_ GE532.out)|exact HB.out))));have n3_:=Zz.mk (bB (g:=gb532) (o:=.cells #[.slice A0_0 l0_0.length c0_0] 24 (0,0)) (by (with_reducible repeat first|apply bN|apply bD|apply bA);exact BK532.out) hb);have n4_:=Zz.mk (qP (by repeat (first|(with_reducible first|exact HB.out|apply qA|apply qN|apply q1_|refine qS ?_ GE532.out)|exact HB.out)) hb);clear HO536;clear HO539;clear BK532;clear HB;have HO536:=n0_;have HO539:=n1_;have HO543:=n2_;have BK532:=n3_;have HB:=n4_;clear n0_ n1_ n2_ n3_ n4_;(try clear hb);(try clear hb2);(try clear hk);(try clear hi);(try clear ho0))|((with_reducible refine gate_dst (N:=8) rfl ?_);refine box_event ?hg (N:=8) ?hd (cs:=#[.slice none 0 0]) (t:=31) ?hr ?_;(case hd=>rfl);(case hg=>rfl);(case hr=>first|(go_simp;done)|(go_simp;rfl));intro gb544 hg w24 hbox hb;have n0_:=Zz.mk (Kd.R_below (by (with_reducible repeat first|apply Kd.R_alloc|apply Kd.R_drewN|apply Kd.R_drew);exact HO536.out) hb);have n1_:=Zz.mk (Kd.R_below (by (with_reducible repeat first|apply Kd.R_alloc|apply Kd.R_drewN|apply Kd.R_drew);exact HO539.out) hb);have n2_:=Zz.mk (Kd.R_below (by (with_reducible repeat first|apply Kd.R_alloc|apply Kd.R_drewN|apply Kd.R_drew);exact HO543.out) hb);have n3_:=Zz.mk (bB (g:=gb532) (o:=.cells #[.slice A0_0 l0_0.length c0_0] 24 (0,0)) (by (with_reducible repeat first|apply bN|apply bD|apply bA);exact BK532.out) hb);have n4_:=Zz.mk (qP (by repeat (first|(with_reducible first|exact HB.out|apply qA|apply qN|apply q1_|refine qS ?_ GE532.out)|exact HB.out)) hb);have n5_:=Zz.mk (hbox);have n6_:=Zz.mk ((by rw [hg];exact (qZ (by repeat (first|(with_reducible first|exact HB.out|apply qA|apply qN|apply q1_|refine qS ?_ GE532.out)|exact HB.out))):w.heap.size≤gb544));have n7_:=Zz.mk ((by rw [hg];exact (qZ (by repeat (first|(with_reducible first|exact HB.out|apply qA|apply qN|apply q1_|refine qS ?_ GE532.out)|exact HB.out))):w.heap.size≤gb544));have n8_:=Zz.mk ((by rw [hg];exact Nat.ne_of_lt (blk_lt (g:=gb532) (o:=.cells #[.slice A0_0 l0_0.length c0_0] 24 (0,0)) (by (with_reducible repeat first|apply bN|apply bD|apply bA);exact BK532.out)):gb532 ≠ gb544));have n9_:=Zz.mk ((by rw [hg];exact Nat.ne_of_gt (blk_lt (g:=gb532) (o:=.cells #[.slice A0_0 l0_0.length c0_0] 24 (0,0)) (by (with_reducible repeat first|apply bN|apply bD|apply bA);exact BK532.out)):gb544 ≠ gb532));clear HO536;clear HO539;clear HO543;clear BK532;clear HB;have HO536:=n0_;have HO539:=n1_;have HO543:=n2_;have BK532:=n3_;have HB:=n4_;have BK544:=n5_;have GW544:=n6_;have GE544:=n7_;have NB532_544:=n8_;have NB544_532:=n9_;clear n0_ n1_ n2_ n3_ n4_ n5_ n6_ n7_ n8_ n9_;clear hb hbox hg;obtain ⟨Ao25,co25,eo25⟩:=Kd.R_slice HO543.out;subst eo25;have hnb26:=NB544_532.out;have hnc26:=NB532_544.out;have hcz27_0:w24.cell? ⟨gb544,0,none⟩=some (.slice none 0 0):=(bC BK544.out 0).trans rfl;have hfz27_0:=bF BK544.out 0)|((with_reducible refine gate_callee (f:=21) rfl ?_);refine goesL_ (some 36) rfl rfl Tryz.func21 (by kernel_rfl) rfl #[.agg #[.slice Ao25 t541.length co25],.string a1] rfl (by (try simp only [List.map_toArray,List.map_cons,List.map_nil]);first|done|rfl|(simp only [List.length_drop,List.length_take];rfl)) ?_;(with_reducible refine (impl_BestSplit.calls _ _ t541 a1 t545 t548 _ ?side1 ?side2 A13.out).mono ?_);(case side1=>refine (Kd.R_reads' (e:=70) (base:=w.heap.size) (ok:=fun k_=>(True∧some k_ ≠ (.slice Ao20 t534.length co20:Value).ownBlock)) (n:=t541.length) (c:=co25) ?_).2.2;exact (by (with_reducible repeat first|apply Kd.R_alloc|apply Kd.R_drewN|apply Kd.R_drew);exact (Kd.R_mono (R_same_ (Kd.R_far (p:=⟨gb544,0,none⟩) (Kd.R_types HO543.out BK544.out (by decide)) (fun _ hk=>hk.2) (.slice Ao25 t541.length co25)) rfl) (fun _ h_=>h_.1))));(case side2=>exact (Kd.R_reads' HO543.out).2.1);rintro e w28 ⟨v546,rfl,ho0,hb⟩;refine ⟨_,rfl,?_⟩;have n0_:=Zz.mk (Kd.R_below (by (with_reducible repeat first|apply Kd.R_alloc|apply Kd.R_drewN|apply Kd.R_drew);exact (Kd.R_mono (R_same_ (Kd.R_far (p:=⟨gb544,0,none⟩) (Kd.R_types HO536.out BK544.out (by decide)) (fun _ hk=>hk.2) (.slice Ao25 t541.length co25)) rfl) (fun _ h_=>h_.1))) hb);have n1_:=Zz.mk (Kd.R_elder' (by (with_reducible repeat first|apply Kd.R_alloc|apply Kd.R_drewN|apply Kd.R_drew);exact (Kd.R_mono (R_same_ (Kd.R_far (p:=⟨gb544,0,none⟩) (Kd.R_types HO539.out BK544.out (by decide)) (fun _ hk=>hk.2) (.slice Ao25 t541.length co25)) rfl) (fun _ h_=>h_.1))) (Kd.R_base ho0) hb);have n2_:=Zz.mk (Kd.R_below (by (with_reducible repeat first|apply Kd.R_alloc|apply Kd.R_drewN|apply Kd.R_drew);exact (Kd.R_mono (R_same_ (Kd.R_far (p:=⟨gb544,0,none⟩) (Kd.R_types HO543.out BK544.out (by decide)) (fun _ hk=>hk.2) (.slice Ao25 t541.length co25)) rfl) (fun _ h_=>h_.1))) hb);have n3_:=Zz.mk (Kd.R_lower (Kd.R_new' ho0 (Kd.R_lt (by (with_reducible repeat first|apply Kd.R_alloc|apply Kd.R_drewN|apply Kd.R_drew);exact (Kd.R_mono (R_same_ (Kd.R_far (p:=⟨gb544,0,none⟩) (Kd.R_types HO539.out BK544.out (by decide)) (fun _ hk=>hk.2) (.slice Ao25 t541.length co25)) rfl) (fun _ h_=>h_.1))))) (qZ (by repeat (first|(with_reducible first|exact HB.out|apply qA|apply qN|apply q1_|refine qS ?_ GE532.out|refine qS ?_ GE544.out)|exact HB.out))));have n4_:=Zz.mk (bB (g:=gb532) (o:=.cells #[.slice A0_0 l0_0.length c0_0] 24 (0,0)) (by (with_reducible repeat first|apply bN|apply bD|apply bA);refine blk_far ?_ NB532_544.out _;(with_reducible repeat first|apply bN|apply bD|apply bA);exact BK532.out) hb);have n5_:=Zz.mk (bB (g:=gb544) (o:=.cells #[.slice Ao25 t541.length co25] 31 (0,0)) (by (with_reducible repeat first|apply bN|apply bD|apply bA);refine blk_put (cs:=#[.slice none 0 0]) ?_ 0 _ rfl;(with_reducible repeat first|apply bN|apply bD|apply bA);exact BK544.out) hb);have n6_:=Zz.mk (qP (by repeat (first|(with_reducible first|exact HB.out|apply qA|apply qN|apply q1_|refine qS ?_ GE532.out|refine qS ?_ GE544.out)|exact HB.out)) hb);clear HO536;clear HO539;clear HO543;clear BK532;clear BK544;clear HB;have HO536:=n0_;have HO539:=n1_;have HO543:=n2_;have HO547:=n3_;have BK532:=n4_;have BK544:=n5_;have HB:=n6_;clear n0_ n1_ n2_ n3_ n4_ n5_ n6_;(try clear hb);(try clear hb2);(try clear hk);(try clear hi);(try clear ho0)))
   (try simp only [Act.put,List.setIfInBounds_toArray,List.set_cons_zero,List.set_cons_succ])
   go_cut [47] (fun v47 wc=>∃ (kq:Nat) (x47_13:Bool),v47=.bool x47_13∧Zz (laws_FnExactBestSplit.j0 kq a1 t537 t540 t545 t548 x47_13 l0_0 t541=some true)∧Zz (kq≤k)∧Zz (Kd.R Kd.string 9 wc w.heap.size (fun k_=>some k_ ≠ (v546:Value).ownBlock) v538 t537)∧Zz (Kd.R Kd.string 9 wc w.heap.size (fun k_=>some k_ ≠ (v538:Value).ownBlock) v546 t545)∧Zz (Kd.R k70 70 wc w.heap.size (fun _=>True) (.slice Ao25 t541.length co25) t541)∧Zz (wc.heap[gb532]?=some (.cells #[(.slice A0_0 l0_0.length c0_0)] 24 (0,0)))∧Zz (wc.heap[gb544]?=some (.cells #[(.slice Ao25 t541.length co25)] 31 (0,0)))∧Zz (Below w.heap.size w wc))
   case first =>
    have H:=HC14.out
    clear HC14
    replace H:=Option.bind_eq_some_iff.mp H
    obtain ⟨t549,A290,H⟩:=H
    replace H:(if t549=true then (laws_FnExactBestSplit.j0 k a1 t537 t540 t545 t548 (t548 != t540) l0_0 t541) else (laws_FnExactBestSplit.j0 k a1 t537 t540 t545 t548 true l0_0 t541))=some true:=H
    have A29:=Zz.mk A290
    clear A290
    by_cases c30:t549=true
    ·subst c30
     have H1:(laws_FnExactBestSplit.j0 k a1 t537 t540 t545 t548 (t548 != t540) l0_0 t541)=some true:=by rw [if_pos rfl] at H;exact H
     clear H
     have H:=H1
     clear H1
     have H':=Zz.mk H
     clear H
     obtain ⟨Ao31,co31,eo31⟩:=Kd.R_slice HO547.out
     subst eo31
     obtain ⟨Ao32,co32,eo32⟩:=Kd.R_slice HO539.out
     subst eo32
     go_wp2_with (first|((with_reducible refine gate_callee (f:=22) rfl ?_);refine goesL_ (some 41) rfl rfl Tryz.func22 (by kernel_rfl) rfl #[.slice Ao31 t545.length co31,.slice Ao32 t537.length co32] rfl (by (try simp only [List.map_toArray,List.map_cons,List.map_nil]);first|done|rfl|(simp only [List.length_drop,List.length_take];rfl)) ?_;(with_reducible refine (laws_eqStringS.calls k _ _ t545 _ _ t537 true _ ?side1 ?side2 ?side3 ?side4 A29.out).mono ?_);(case side1=>repeat (first|exact (Kd.R_reads' HO547.out).2.2|(with_reducible refine Kd.C_alloc ?_ _)|(with_reducible refine Kd.C_drewN ?_ _)|(with_reducible refine Kd.C_drew ?_)));(case side2=>exact (Kd.R_reads' HO547.out).2.1);(case side3=>repeat (first|exact (Kd.R_reads' HO539.out).2.2|(with_reducible refine Kd.C_alloc ?_ _)|(with_reducible refine Kd.C_drewN ?_ _)|(with_reducible refine Kd.C_drew ?_)));(case side4=>exact (Kd.R_reads' HO539.out).2.1);rintro e w' ⟨rfl,⟨nd,rfl⟩⟩;refine ⟨_,rfl,?_⟩))
     go_meet
     case rel=>exact ⟨_,((t548 != t540)),(by first|rfl|(simp;done)|(simp [*];done)),H',⟨by first|omega|exact Nat.le_refl _⟩,⟨by (with_reducible repeat first|apply Kd.R_alloc|apply Kd.R_drewN|apply Kd.R_drew);exact Kd.R_mono HO539.out (fun _ hk=>hk.2)⟩,⟨by (with_reducible repeat first|apply Kd.R_alloc|apply Kd.R_drewN|apply Kd.R_drew);exact Kd.R_mono HO547.out (fun _ hk=>hk.2)⟩,⟨by (with_reducible repeat first|apply Kd.R_alloc|apply Kd.R_drewN|apply Kd.R_drew);exact Kd.R_mono HO543.out (fun _ hk=>trivial)⟩,⟨by (with_reducible repeat first|apply bN|apply bD|apply bA);exact BK532.out⟩,⟨by (with_reducible repeat first|apply bN|apply bD|apply bA);exact BK544.out⟩,⟨by repeat (first|(with_reducible first|exact HB.out|apply qA|apply qN|apply q1_|refine qS ?_ GE532.out|refine qS ?_ GE544.out)|exact HB.out)⟩⟩
    ·replace c30:=Bool.eq_false_iff.mpr c30
     subst c30
     have H1:(laws_FnExactBestSplit.j0 k a1 t537 t540 t545 t548 true l0_0 t541)=some true:=by rw [if_neg (show ¬ (false=true) by decide)] at H;exact H
     exact absurd H1 (by cases k <;> simp [laws_FnExactBestSplit.j0])
   case rest =>
    clear HC14
    try clear c2
    try clear p2
    try clear c3
    try clear c3b0
    try clear c3b1
    try clear c5
    try clear c6
    try clear c6b0
    try clear c8
    try clear c20
    try clear c21
    try clear c22
    try clear c26
    try clear c30
    try clear hcz16_0
    try clear hcz18_0
    try clear hcz22_0
    try clear hcz27_0
    try clear hcz8_0
    try clear hfz16_0
    try clear hfz18_0
    try clear hfz22_0
    try clear hfz27_0
    try clear hfz8_0
    obtain ⟨kq,x47_13,rfl,HA,HJ13,HO_6,HO_9,HO_545000,BK532,BK544,HB⟩:=hcut
    cases kq with
    | zero=>exact absurd HA.out (by simp [laws_FnExactBestSplit.j0])
    | succ kj13 =>
     have H:=HA.out
     clear HA
     simp only [laws_FnExactBestSplit.j0] at H
     by_cases c35:x47_13=true
     ·subst c35
      have H1:(some false)=some true:=by rw [if_pos rfl] at H;exact H
      exact absurd H1 (by simp)
     ·replace c35:=Bool.eq_false_iff.mpr c35
      subst c35
      have H1:((laws_toTrie.f kj13 l0_0).bind fun t550=>((laws_eqTrie.f kj13 t541 t550).bind fun t553=>(if t553=true then ((laws_markTrie.f kj13 t541 1).bind fun bt554=>(if bt554.1<0 then (laws_FnExactBestSplit.j1 kj13 a1 t537 t540 t545 true l0_0) else ((laws_eqStringS.f kj13 t545 t537).bind fun t556=>(if t556=true then (laws_FnExactBestSplit.j1 kj13 a1 t537 t540 t545 (t548 != t540) l0_0) else (laws_FnExactBestSplit.j1 kj13 a1 t537 t540 t545 true l0_0))))) else (some false))))=some true:=by rw [if_neg (show ¬ (false=true) by decide)] at H;exact H
      clear H
      have H:=H1
      clear H1
      replace H:=Option.bind_eq_some_iff.mp H
      obtain ⟨t550,A360,H⟩:=H
      replace H:((laws_eqTrie.f kj13 t541 t550).bind fun t553=>(if t553=true then ((laws_markTrie.f kj13 t541 1).bind fun bt554=>(if bt554.1<0 then (laws_FnExactBestSplit.j1 kj13 a1 t537 t540 t545 true l0_0) else ((laws_eqStringS.f kj13 t545 t537).bind fun t556=>(if t556=true then (laws_FnExactBestSplit.j1 kj13 a1 t537 t540 t545 (t548 != t540) l0_0) else (laws_FnExactBestSplit.j1 kj13 a1 t537 t540 t545 true l0_0))))) else (some false)))=some true:=H
      have A36:=Zz.mk A360
      clear A360
      replace H:=Option.bind_eq_some_iff.mp H
      obtain ⟨t553,A370,H⟩:=H
      replace H:(if t553=true then ((laws_markTrie.f kj13 t541 1).bind fun bt554=>(if bt554.1<0 then (laws_FnExactBestSplit.j1 kj13 a1 t537 t540 t545 true l0_0) else ((laws_eqStringS.f kj13 t545 t537).bind fun t556=>(if t556=true then (laws_FnExactBestSplit.j1 kj13 a1 t537 t540 t545 (t548 != t540) l0_0) else (laws_FnExactBestSplit.j1 kj13 a1 t537 t540 t545 true l0_0))))) else (some false))=some true:=H
      have A37:=Zz.mk A370
      clear A370
      by_cases c38:t553=true
      ·subst c38
       have H1:((laws_markTrie.f kj13 t541 1).bind fun bt554=>(if bt554.1<0 then (laws_FnExactBestSplit.j1 kj13 a1 t537 t540 t545 true l0_0) else ((laws_eqStringS.f kj13 t545 t537).bind fun t556=>(if t556=true then (laws_FnExactBestSplit.j1 kj13 a1 t537 t540 t545 (t548 != t540) l0_0) else (laws_FnExactBestSplit.j1 kj13 a1 t537 t540 t545 true l0_0)))))=some true:=by rw [if_pos rfl] at H;exact H
       clear H
       have H:=H1
       clear H1
       replace H:=Option.bind_eq_some_iff.mp H
       obtain ⟨⟨t554,t555⟩,A390,H⟩:=H
       replace H:(if t554<0 then (laws_FnExactBestSplit.j1 kj13 a1 t537 t540 t545 true l0_0) else ((laws_eqStringS.f kj13 t545 t537).bind fun t556=>(if t556=true then (laws_FnExactBestSplit.j1 kj13 a1 t537 t540 t545 (t548 != t540) l0_0) else (laws_FnExactBestSplit.j1 kj13 a1 t537 t540 t545 true l0_0))))=some true:=H
       have A39:=Zz.mk A390
       clear A390
       have HC40:=Zz.mk H
       clear H
       try go_wp2
       have n0_:=Zz.mk (Kd.R_drew HO_6.out)
       have n1_:=Zz.mk (Kd.R_drew HO_9.out)
       have n2_:=Zz.mk (Kd.R_drew HO_545000.out)
       have n3_:=Zz.mk (bD BK532.out)
       have n4_:=Zz.mk (bD BK544.out)
       have n5_:=Zz.mk (q1_ HB.out)
       revert n0_ n1_ n2_ n3_ n4_ n5_
       clear HO_6 HO_9 HO_545000 BK532 BK544 HB
       intro HO_6 HO_9 HO_545000 BK532 BK544 HB
       refine start_ (n:=5) (S:=fun w'=>w'.cell? ⟨gb544,0,none⟩=some (.slice Ao25 t541.length co25)∧w'.cell? ⟨gb532,0,none⟩=some (.slice A0_0 l0_0.length c0_0)) (ds:=[]) #[false,false,false,false,false] (by kernel_rfl) rfl rfl ⟨(bC BK544.out 0).trans rfl,(bC BK532.out 0).trans rfl⟩ (fun hHeld=>?_)
       generalize wc.drew=w41 at HO_6 HO_9 HO_545000 BK532 BK544 HB hHeld ⊢
       refine take_ (i:=0) (N:=some 48) (v:=?_) (a':=?_) #[true,false,false,false,false] rfl rfl (by kernel_rfl) (fun _ _ _ h=>h) (Or.inl ⟨by rfl,?_⟩) hHeld ?_ ?_
       rotate_left
       ·rintro w' ⟨s0,s1⟩
        go_simp
        with_reducible rfl
       rotate_left
       ·simp only [Act.put,List.setIfInBounds_toArray,List.set_cons_zero,List.set_cons_succ,i64_w,i32_w]
        rfl
       refine take_ (i:=1) (N:=some 49) (v:=?_) (a':=?_) #[true,true,false,false,false] rfl rfl (by kernel_rfl) (fun _ _ _ h=>h) (Or.inl ⟨by rfl,?_⟩) hHeld ?_ ?_
       rotate_left
       ·rintro w' ⟨s0,s1⟩
        go_simp
        with_reducible rfl
       rotate_left
       ·simp only [Act.put,List.setIfInBounds_toArray,List.set_cons_zero,List.set_cons_succ,i64_w,i32_w]
        rfl
       refine one_ (i:=2) (N:=some 50) #[true,true,true,false,false] rfl rfl (by kernel_rfl) (by decide) (fun K hK=>?_)
       refine goes_ Tryz.func8 (by kernel_rfl) rfl #[.agg #[.slice A0_0 l0_0.length c0_0]] (by rfl) rfl rfl (by (try simp only [List.map_toArray,List.map_cons,List.map_nil]);first|done|rfl|(simp only [List.length_drop,List.length_take];rfl)) ?_
       with_reducible refine (laws_toTrie.calls kj13 _ _ l0_0 t550 _ ?side1 ?side2 A36.out).mono ?_
       (case side1=>exact (Kd.C_below HR0_0.out HB.out))
       (case side2=>exact HC0_0.out)
       rintro e w42 ⟨v551,rfl,ho0,hb⟩
       refine ⟨_,rfl,?_⟩
       have n0_:=Zz.mk (Kd.R_below HO_6.out hb)
       have n1_:=Zz.mk (Kd.R_below HO_9.out hb)
       have n2_:=Zz.mk (Kd.R_elder' HO_545000.out (Kd.R_base ho0) hb)
       have n3_:=Zz.mk (Kd.R_lower (Kd.R_new' ho0 (Kd.R_lt HO_545000.out)) (qZ HB.out))
       have n4_:=Zz.mk (bB BK532.out hb)
       have n5_:=Zz.mk (bB BK544.out hb)
       have n6_:=Zz.mk (qP HB.out hb)
       revert n0_ n1_ n2_ n3_ n4_ n5_ n6_
       clear HO_6 HO_9 HO_545000 BK532 BK544 HB
       intro HO_6 HO_9 HO_545000 HO552 BK532 BK544 HB
       (try clear hb)
       (try clear hb2)
       (try clear hk)
       (try clear hi)
       (try clear ho0)
       obtain ⟨Ao43,co43,eo43⟩:=Kd.R_slice HO552.out
       (first|subst eo43|(injection eo43 with f1_ f2_ f3_;have f4_:=f1_.symm;have f5_:=f3_.symm;clear f1_ f2_ f3_;subst f4_;subst f5_))
       refine hK.out _ _ ⟨(bC BK544.out 0).trans rfl,(bC BK532.out 0).trans rfl⟩ (fun hHeld=>?_)
       clear hK K
       refine norm_ (a':=?_) ?_ ?_
       rotate_left
       ·show Act.put _ (some 50) _=_
        simp only [Act.put,List.setIfInBounds_toArray,List.set_cons_zero,List.set_cons_succ,i64_w,i32_w]
        rfl
       refine one_ (i:=3) (N:=some 51) #[true,true,true,true,false] rfl rfl (by kernel_rfl) (by decide) (fun K hK=>?_)
       refine goes_ Tryz.func11 (by kernel_rfl) rfl #[.agg #[.slice Ao25 t541.length co25],.agg #[.slice Ao43 t550.length co43]] (by rfl) rfl rfl (by (try simp only [List.map_toArray,List.map_cons,List.map_nil]);first|done|rfl|(simp only [List.length_drop,List.length_take];rfl)) ?_
       with_reducible refine (laws_eqTrie.calls kj13 _ _ t541 _ _ t550 true _ ?side1 ?side2 ?side3 ?side4 A37.out).mono ?_
       (case side1=>exact (Kd.R_reads' HO_545000.out).2.2)
       (case side2=>exact (Kd.R_reads' HO_545000.out).2.1)
       (case side3=>exact (Kd.R_reads' HO552.out).2.2)
       (case side4=>exact (Kd.R_reads' HO552.out).2.1)
       rintro e w44 ⟨rfl,hb⟩
       refine ⟨_,rfl,?_⟩
       have n0_:=Zz.mk (Kd.R_below HO_6.out hb)
       have n1_:=Zz.mk (Kd.R_below HO_9.out hb)
       have n2_:=Zz.mk (Kd.R_below HO_545000.out hb)
       have n3_:=Zz.mk (Kd.R_below HO552.out hb)
       have n4_:=Zz.mk (bB BK532.out hb)
       have n5_:=Zz.mk (bB BK544.out hb)
       have n6_:=Zz.mk (qP HB.out hb)
       revert n0_ n1_ n2_ n3_ n4_ n5_ n6_
       clear HO_6 HO_9 HO_545000 HO552 BK532 BK544 HB
       intro HO_6 HO_9 HO_545000 HO552 BK532 BK544 HB
       (try clear hb)
       (try clear hb2)
       (try clear hk)
       (try clear hi)
       refine hK.out _ _ ⟨(bC BK544.out 0).trans rfl,(bC BK532.out 0).trans rfl⟩ (fun hHeld=>?_)
       clear hK K
       refine norm_ (a':=?_) ?_ ?_
       rotate_left
       ·show Act.put _ (some 51) _=_
        simp only [Act.put,List.setIfInBounds_toArray,List.set_cons_zero,List.set_cons_succ,i64_w,i32_w]
        rfl
       refine pure_ (i:=4) (N:=some 52) (v:=?_) (a':=?_) #[true,true,true,true,true] rfl rfl (by kernel_rfl) (fun _ _ _ h=>h) (Or.inl ⟨by rfl,?_⟩) ?_ ?_
       rotate_left
       ·intro w'
        go_simp
        with_reducible rfl
       rotate_left
       ·simp only [Act.put,List.setIfInBounds_toArray,List.set_cons_zero,List.set_cons_succ,i64_w,i32_w]
        rfl
       refine done_ (by kernel_rfl) ?_
       have hnb45:=NB544_532.out
       have hnc45:=NB532_544.out
       have hcz46_0:w44.cell? ⟨gb544,0,none⟩=some (.slice Ao25 t541.length co25):=(bC BK544.out 0).trans rfl
       have hfz46_0:=bF BK544.out 0
       go_upto_region 16 with (first|((with_reducible refine gate_callee (f:=12) rfl ?_);refine goesL_ (some 55) rfl rfl Tryz.func12 (by kernel_rfl) rfl #[.agg #[.slice Ao25 t541.length co25],.int .i64 1] rfl (by (try simp only [List.map_toArray,List.map_cons,List.map_nil]);first|done|rfl|(simp only [List.length_drop,List.length_take];rfl)) ?_;(with_reducible refine (laws_markTrie.calls kj13 (fun k_=>some k_=(.slice Ao25 t541.length co25:Value).ownBlock) (.slice Ao25 t541.length co25) t541 1 t554 t555 w _ ?side1 ?side2 A39.out).mono ?_);(case side1=>repeat (first|(with_reducible first|exact HB.out|apply qA|apply qN|apply q1_|refine qS ?_ GE532.out|refine qS ?_ GE544.out)|exact HB.out));(case side2=>exact Kd.R_tight rfl HO_545000.out);rintro e w47 ⟨rfl,hy0,hb,hkp⟩;refine ⟨_,rfl,?_⟩;have n0_:=Zz.mk (Kd.R_mono (ok':=fun k_=>some k_ ≠ (v546:Value).ownBlock) (Kd.R_keptB ((Kd.R_apart' HO_6.out (Kd.R_typed HO_545000.out) (by decide))) hkp (fun k_ hk_ hs_=>(hk_.2) hs_)) (fun k_ hk_=>hk_.1.1));have n1_:=Zz.mk (Kd.R_mono (ok':=fun k_=>some k_ ≠ (v538:Value).ownBlock) (Kd.R_keptB ((Kd.R_apart' HO_9.out (Kd.R_typed HO_545000.out) (by decide))) hkp (fun k_ hk_ hs_=>(hk_.2) hs_)) (fun k_ hk_=>hk_.1.1));have n2_:=Zz.mk (Kd.R_reok rfl hy0 (fun k_ e_=>HO_545000.out.1 k_ e_));have n3_:=Zz.mk (blk_kept (by (with_reducible repeat first|apply bN|apply bD|apply bA);exact BK532.out) hkp (fun hs_=>(fun e_=>(Kd.R_ne HO_545000.out BK532.out (by decide)) e_) hs_));have n4_:=Zz.mk (blk_kept (by (with_reducible repeat first|apply bN|apply bD|apply bA);exact BK544.out) hkp (fun hs_=>(fun e_=>(Kd.R_ne HO_545000.out BK544.out (by decide)) e_) hs_));have n5_:=Zz.mk (Kd.R_mono (ok':=fun k_=>some k_ ≠ (.slice Ao25 t541.length co25:Value).ownBlock) (Kd.R_keptB (HO552.out) hkp (fun k_ hk_ hs_=>(hk_.2) hs_)) (fun k_ hk_=>hk_.1.2));have n6_:=Zz.mk (hb);clear HO_6;clear HO_9;clear HO_545000;clear BK532;clear BK544;clear HO552;clear HB;have HO_6:=n0_;have HO_9:=n1_;have HO_545000:=n2_;have BK532:=n3_;have BK544:=n4_;have HO552:=n5_;have HB:=n6_;clear n0_ n1_ n2_ n3_ n4_ n5_ n6_;(try clear hb);(try clear hkp);(try clear hy0)))
       (try simp only [Act.put,List.setIfInBounds_toArray,List.set_cons_zero,List.set_cons_succ])
       go_cut [68] (fun v68 wc=>∃ (kq:Nat) (x68_39:Bool),v68=.bool x68_39∧Zz (laws_FnExactBestSplit.j1 kq a1 t537 t540 t545 x68_39 l0_0=some true)∧Zz (kq≤kj13)∧Zz (Kd.R Kd.string 9 wc w.heap.size (fun k_=>some k_ ≠ (v546:Value).ownBlock) v538 t537)∧Zz (Kd.R Kd.string 9 wc w.heap.size (fun k_=>some k_ ≠ (v538:Value).ownBlock) v546 t545)∧Zz (Kd.R k70 70 wc w.heap.size (fun _=>True) (.slice Ao25 t541.length co25) t555)∧Zz (wc.heap[gb532]?=some (.cells #[(.slice A0_0 l0_0.length c0_0)] 24 (0,0)))∧Zz (wc.heap[gb544]?=some (.cells #[(.slice Ao25 t541.length co25)] 31 (0,0)))∧Zz (Below w.heap.size w wc))
       case first =>
        have H:=HC40.out
        clear HC40
        by_cases c48:t554<0
        ·rw [if_pos c48] at H
         exact absurd H (by cases kj13 <;> simp [laws_FnExactBestSplit.j1])
        ·rw [if_neg c48] at H
         have c48b0:decide (t554<0)=false:=decide_eq_false c48
         clear c48
         (first|rw [c48b0]|(simp only [i64_w,i32_w];rw [c48b0])|skip)
         replace H:=Option.bind_eq_some_iff.mp H
         obtain ⟨t556,A490,H⟩:=H
         replace H:(if t556=true then (laws_FnExactBestSplit.j1 kj13 a1 t537 t540 t545 (t548 != t540) l0_0) else (laws_FnExactBestSplit.j1 kj13 a1 t537 t540 t545 true l0_0))=some true:=H
         have A49:=Zz.mk A490
         clear A490
         by_cases c50:t556=true
         ·subst c50
          have H1:(laws_FnExactBestSplit.j1 kj13 a1 t537 t540 t545 (t548 != t540) l0_0)=some true:=by rw [if_pos rfl] at H;exact H
          clear H
          have H:=H1
          clear H1
          have H':=Zz.mk H
          clear H
          obtain ⟨Ao51,co51,eo51⟩:=Kd.R_slice HO_9.out
          subst eo51
          obtain ⟨Ao52,co52,eo52⟩:=Kd.R_slice HO_6.out
          subst eo52
          go_wp2_with (first|(go_at_call 22;(with_reducible refine (laws_eqStringS.calls kj13 _ _ t545 _ _ t537 true _ ?side1 ?side2 ?side3 ?side4 A49.out).mono ?_);(case side1=>repeat (first|exact (Kd.R_reads' HO_9.out).2.2|(with_reducible refine Kd.C_alloc ?_ _)|(with_reducible refine Kd.C_drewN ?_ _)|(with_reducible refine Kd.C_drew ?_)));(case side2=>exact (Kd.R_reads' HO_9.out).2.1);(case side3=>repeat (first|exact (Kd.R_reads' HO_6.out).2.2|(with_reducible refine Kd.C_alloc ?_ _)|(with_reducible refine Kd.C_drewN ?_ _)|(with_reducible refine Kd.C_drew ?_)));(case side4=>exact (Kd.R_reads' HO_6.out).2.1);rintro e w' ⟨rfl,⟨nd,rfl⟩⟩))
          go_meet
          case rel=>exact ⟨_,((t548 != t540)),(by first|rfl|(simp;done)|(simp [*];done)),H',⟨by have:=HJ13.out;first|omega|exact Nat.le_refl _⟩,⟨by (with_reducible repeat first|apply Kd.R_alloc|apply Kd.R_drewN|apply Kd.R_drew);exact HO_6.out⟩,⟨by (with_reducible repeat first|apply Kd.R_alloc|apply Kd.R_drewN|apply Kd.R_drew);exact HO_9.out⟩,⟨by (with_reducible repeat first|apply Kd.R_alloc|apply Kd.R_drewN|apply Kd.R_drew);exact Kd.R_mono HO_545000.out (fun _ hk=>trivial)⟩,⟨by (with_reducible repeat first|apply bN|apply bD|apply bA);exact BK532.out⟩,⟨by (with_reducible repeat first|apply bN|apply bD|apply bA);exact BK544.out⟩,⟨by repeat (first|(with_reducible first|exact HB.out|apply qA|apply qN|apply q1_|refine qS ?_ GE532.out|refine qS ?_ GE544.out)|exact HB.out)⟩⟩
         ·replace c50:=Bool.eq_false_iff.mpr c50
          subst c50
          have H1:(laws_FnExactBestSplit.j1 kj13 a1 t537 t540 t545 true l0_0)=some true:=by rw [if_neg (show ¬ (false=true) by decide)] at H;exact H
          exact absurd H1 (by cases kj13 <;> simp [laws_FnExactBestSplit.j1])
       case rest =>
        clear HC40
        try clear c1
        try clear c2
        try clear p2
        try clear c3
        try clear c3b0
        try clear c3b1
        try clear c4
        try clear c5
        try clear c6
        try clear c6b0
        try clear c8
        try clear c11
        try clear c12
        try clear c20
        try clear c21
        try clear c22
        try clear c26
        try clear c30
        try clear c35
        try clear c38
        try clear c45
        try clear c48
        try clear c48b0
        try clear c50
        try clear hcz16_0
        try clear hcz18_0
        try clear hcz22_0
        try clear hcz27_0
        try clear hcz46_0
        try clear hcz8_0
        try clear hfz16_0
        try clear hfz18_0
        try clear hfz22_0
        try clear hfz27_0
        try clear hfz46_0
        try clear hfz8_0
        try clear p2
        obtain ⟨kq,x68_39,rfl,HA,HJ39,HO_6,HO_9,HO_545000,BK532,BK544,HB⟩:=hcut
        have hl545000_39:=(Kd.R_reads' HO_545000.out).1
        rw [hl545000_39] at HO_545000
        (try simp only [hl545000_39])
        (try simp only [hl545000_39] at BK532)
        (try simp only [hl545000_39] at BK544)
        (try simp only [hl545000_39] at HO_6)
        (try simp only [hl545000_39] at HO_9)
        cases kq with
        | zero=>exact absurd HA.out (by simp [laws_FnExactBestSplit.j1])
        | succ kj39 =>
         have H:=HA.out
         clear HA
         simp only [laws_FnExactBestSplit.j1] at H
         by_cases c55:x68_39=true
         ·subst c55
          have H1:(some false)=some true:=by rw [if_pos rfl] at H;exact H
          exact absurd H1 (by simp)
         ·replace c55:=Bool.eq_false_iff.mpr c55
          subst c55
          have H1:((laws_markStringS.f kj39 t545 1).bind fun bt557=>((laws_heldStringS.f kj39 bt557.2 1).bind fun t559=>(if t559<0 then (some false) else (if t559=bt557.1 then ((laws_toTrie.f kj39 l0_0).bind fun t560=>((impl_BestSplit.f t560 a1).bind fun bt563=>((laws_eqStringS.f kj39 bt563.1 t537).bind fun t567=>(if t567=true then (laws_FnExactBestSplit.j2 kj39 bt557.2 bt557.1 (bt563.2 != t540)) else (laws_FnExactBestSplit.j2 kj39 bt557.2 bt557.1 true))))) else (some false)))))=some true:=by rw [if_neg (show ¬ (false=true) by decide)] at H;exact H
          clear H
          have H:=H1
          clear H1
          replace H:=Option.bind_eq_some_iff.mp H
          obtain ⟨⟨t557,t558⟩,A560,H⟩:=H
          replace H:((laws_heldStringS.f kj39 t558 1).bind fun t559=>(if t559<0 then (some false) else (if t559=t557 then ((laws_toTrie.f kj39 l0_0).bind fun t560=>((impl_BestSplit.f t560 a1).bind fun bt563=>((laws_eqStringS.f kj39 bt563.1 t537).bind fun t567=>(if t567=true then (laws_FnExactBestSplit.j2 kj39 t558 t557 (bt563.2 != t540)) else (laws_FnExactBestSplit.j2 kj39 t558 t557 true))))) else (some false))))=some true:=H
          have A56:=Zz.mk A560
          clear A560
          replace H:=Option.bind_eq_some_iff.mp H
          obtain ⟨t559,A570,H⟩:=H
          replace H:(if t559<0 then (some false) else (if t559=t557 then ((laws_toTrie.f kj39 l0_0).bind fun t560=>((impl_BestSplit.f t560 a1).bind fun bt563=>((laws_eqStringS.f kj39 bt563.1 t537).bind fun t567=>(if t567=true then (laws_FnExactBestSplit.j2 kj39 t558 t557 (bt563.2 != t540)) else (laws_FnExactBestSplit.j2 kj39 t558 t557 true))))) else (some false)))=some true:=H
          have A57:=Zz.mk A570
          clear A570
          by_cases c58:t559<0
          ·rw [if_pos c58] at H
           exact absurd H (by simp)
          ·rw [if_neg c58] at H
           have c58b0:decide (t559<0)=false:=decide_eq_false c58
           clear c58
           by_cases c62:t559=t557
           ·rw [if_pos c62] at H
            have c62b0:(t559 == t557)=true:=beq_iff_eq.mpr c62
            have c62b1:(t559 != t557)=false:=bne_eq_false_iff_eq.mpr c62
            clear c62
            replace H:=Option.bind_eq_some_iff.mp H
            obtain ⟨t560,A630,H⟩:=H
            replace H:((impl_BestSplit.f t560 a1).bind fun bt563=>((laws_eqStringS.f kj39 bt563.1 t537).bind fun t567=>(if t567=true then (laws_FnExactBestSplit.j2 kj39 t558 t557 (bt563.2 != t540)) else (laws_FnExactBestSplit.j2 kj39 t558 t557 true))))=some true:=H
            have A63:=Zz.mk A630
            clear A630
            replace H:=Option.bind_eq_some_iff.mp H
            obtain ⟨⟨t563,t566⟩,A640,H⟩:=H
            replace H:((laws_eqStringS.f kj39 t563 t537).bind fun t567=>(if t567=true then (laws_FnExactBestSplit.j2 kj39 t558 t557 (t566 != t540)) else (laws_FnExactBestSplit.j2 kj39 t558 t557 true)))=some true:=H
            have A64:=Zz.mk A640
            clear A640
            have HC65:=Zz.mk H
            clear H
            obtain ⟨Ao66,co66,eo66⟩:=Kd.R_slice HO_9.out
            subst eo66
            go_upto_region 27 with (first|((with_reducible refine gate_callee (f:=23) rfl ?_);refine goesL_ (some 71) rfl rfl Tryz.func23 (by kernel_rfl) rfl #[.slice Ao66 t545.length co66,.int .i64 1] rfl (by (try simp only [List.map_toArray,List.map_cons,List.map_nil]);first|done|rfl|(simp only [List.length_drop,List.length_take];rfl)) ?_;(with_reducible refine (laws_markStringS.calls kj39 (fun k_=>some k_=(.slice Ao66 t545.length co66:Value).ownBlock) (.slice Ao66 t545.length co66) t545 1 t557 t558 w _ ?side1 ?side2 A56.out).mono ?_);(case side1=>repeat (first|(with_reducible first|exact HB.out|apply qA|apply qN|apply q1_|refine qS ?_ GE532.out|refine qS ?_ GE544.out)|exact HB.out));(case side2=>exact Kd.R_tight rfl HO_9.out);rintro e w67 ⟨rfl,hy0,hb,hkp⟩;refine ⟨_,rfl,?_⟩;have n0_:=Zz.mk (Kd.R_mono (ok':=fun k_=>some k_ ≠ (.slice Ao66 t545.length co66:Value).ownBlock) (Kd.R_keptB (HO_6.out) hkp (fun k_ hk_ hs_=>(hk_) hs_)) (fun k_ hk_=>hk_.1));have n1_:=Zz.mk (Kd.R_reok rfl hy0 (fun k_ e_=>HO_9.out.1 k_ e_));have n2_:=Zz.mk (Kd.R_mono (ok':=fun k_=>True) (Kd.R_keptB ((Kd.R_apart' HO_545000.out (Kd.R_typed HO_9.out) (by decide))) hkp (fun k_ hk_ hs_=>(hk_.2) hs_)) (fun k_ hk_=>trivial));have n3_:=Zz.mk (blk_kept (by (with_reducible repeat first|apply bN|apply bD|apply bA);exact BK532.out) hkp (fun hs_=>(fun e_=>(Kd.R_ne HO_9.out BK532.out (by decide)) e_) hs_));have n4_:=Zz.mk (blk_kept (by (with_reducible repeat first|apply bN|apply bD|apply bA);exact BK544.out) hkp (fun hs_=>(fun e_=>(Kd.R_ne HO_9.out BK544.out (by decide)) e_) hs_));have n5_:=Zz.mk (hb);clear HO_6;clear HO_9;clear HO_545000;clear BK532;clear BK544;clear HB;have HO_6:=n0_;have HO_9:=n1_;have HO_545000:=n2_;have BK532:=n3_;have BK544:=n4_;have HB:=n5_;clear n0_ n1_ n2_ n3_ n4_ n5_;(try clear hb);(try clear hkp);(try clear hy0))|((with_reducible refine gate_callee (f:=24) rfl ?_);refine goesL_ (some 74) rfl rfl Tryz.func24 (by kernel_rfl) rfl #[.slice Ao66 t558.length co66,.int .i64 1] rfl (by (try simp only [List.map_toArray,List.map_cons,List.map_nil]);first|done|(rw [show t558.length=t545.length from (Kd.R_reads' HO_9.out).1.symm] <;> rfl)|rfl|(simp only [List.length_drop,List.length_take];rfl)) ?_;(with_reducible refine (laws_heldStringS.calls kj39 _ _ t558 1 t559 _ ?side1 ?side2 A57.out).mono ?_);(case side1=>repeat (first|exact (Kd.R_reads' HO_9.out).2.2|(with_reducible refine Kd.C_alloc ?_ _)|(with_reducible refine Kd.C_drewN ?_ _)|(with_reducible refine Kd.C_drew ?_)));(case side2=>rw [show t558.length=t545.length from (Kd.R_reads' HO_9.out).1.symm];exact (Kd.R_reads' HO_9.out).2.1);rintro e w68 ⟨rfl,hb⟩;refine ⟨_,rfl,?_⟩;have n0_:=Zz.mk (Kd.R_below (by (with_reducible repeat first|apply Kd.R_alloc|apply Kd.R_drewN|apply Kd.R_drew);exact HO_6.out) hb);have n1_:=Zz.mk (Kd.R_below (by (with_reducible repeat first|apply Kd.R_alloc|apply Kd.R_drewN|apply Kd.R_drew);exact HO_9.out) hb);have n2_:=Zz.mk (Kd.R_below (by (with_reducible repeat first|apply Kd.R_alloc|apply Kd.R_drewN|apply Kd.R_drew);exact HO_545000.out) hb);have n3_:=Zz.mk (bB (g:=gb532) (o:=.cells #[.slice A0_0 l0_0.length c0_0] 24 (0,0)) (by (with_reducible repeat first|apply bN|apply bD|apply bA);exact BK532.out) hb);have n4_:=Zz.mk (bB (g:=gb544) (o:=.cells #[.slice Ao25 t555.length co25] 31 (0,0)) (by (with_reducible repeat first|apply bN|apply bD|apply bA);exact BK544.out) hb);have n5_:=Zz.mk (qP (by repeat (first|(with_reducible first|exact HB.out|apply qA|apply qN|apply q1_|refine qS ?_ GE532.out|refine qS ?_ GE544.out)|exact HB.out)) hb);clear HO_6;clear HO_9;clear HO_545000;clear BK532;clear BK544;clear HB;have HO_6:=n0_;have HO_9:=n1_;have HO_545000:=n2_;have BK532:=n3_;have BK544:=n4_;have HB:=n5_;clear n0_ n1_ n2_ n3_ n4_ n5_;(try clear hb);(try clear hb2);(try clear hk);(try clear hi);have hnb69:=NB532_544.out;have hnc69:=NB544_532.out;have hcz70_0:w68.cell? ⟨gb532,0,none⟩=some (.slice A0_0 l0_0.length c0_0):=(bC BK532.out 0).trans rfl;have hfz70_0:=bF BK532.out 0)|((with_reducible refine gate_callee (f:=8) rfl ?_);refine goesL_ (some 82) rfl rfl Tryz.func8 (by kernel_rfl) rfl #[.agg #[.slice A0_0 l0_0.length c0_0]] rfl (by (try simp only [List.map_toArray,List.map_cons,List.map_nil]);first|done|rfl|(simp only [List.length_drop,List.length_take];rfl)) ?_;(with_reducible refine (laws_toTrie.calls kj39 _ _ l0_0 t560 _ ?side1 ?side2 A63.out).mono ?_);(case side1=>repeat (first|exact (Kd.C_below HR0_0.out HB.out)|(with_reducible refine Kd.C_alloc ?_ _)|(with_reducible refine Kd.C_drewN ?_ _)|(with_reducible refine Kd.C_drew ?_)));(case side2=>exact HC0_0.out);rintro e w71 ⟨v561,rfl,ho0,hb⟩;refine ⟨_,rfl,?_⟩;have n0_:=Zz.mk (Kd.R_below (by (with_reducible repeat first|apply Kd.R_alloc|apply Kd.R_drewN|apply Kd.R_drew);exact HO_6.out) hb);have n1_:=Zz.mk (Kd.R_below (by (with_reducible repeat first|apply Kd.R_alloc|apply Kd.R_drewN|apply Kd.R_drew);exact HO_9.out) hb);have n2_:=Zz.mk (Kd.R_elder' (by (with_reducible repeat first|apply Kd.R_alloc|apply Kd.R_drewN|apply Kd.R_drew);exact HO_545000.out) (Kd.R_base ho0) hb);have n3_:=Zz.mk (Kd.R_lower (Kd.R_new' ho0 (Kd.R_lt (by (with_reducible repeat first|apply Kd.R_alloc|apply Kd.R_drewN|apply Kd.R_drew);exact HO_545000.out))) (qZ (by repeat (first|(with_reducible first|exact HB.out|apply qA|apply qN|apply q1_|refine qS ?_ GE532.out|refine qS ?_ GE544.out)|exact HB.out))));have n4_:=Zz.mk (bB (g:=gb532) (o:=.cells #[.slice A0_0 l0_0.length c0_0] 24 (0,0)) (by (with_reducible repeat first|apply bN|apply bD|apply bA);exact BK532.out) hb);have n5_:=Zz.mk (bB (g:=gb544) (o:=.cells #[.slice Ao25 t555.length co25] 31 (0,0)) (by (with_reducible repeat first|apply bN|apply bD|apply bA);exact BK544.out) hb);have n6_:=Zz.mk (qP (by repeat (first|(with_reducible first|exact HB.out|apply qA|apply qN|apply q1_|refine qS ?_ GE532.out|refine qS ?_ GE544.out)|exact HB.out)) hb);clear HO_6;clear HO_9;clear HO_545000;clear BK532;clear BK544;clear HB;have HO_6:=n0_;have HO_9:=n1_;have HO_545000:=n2_;have HO562:=n3_;have BK532:=n4_;have BK544:=n5_;have HB:=n6_;clear n0_ n1_ n2_ n3_ n4_ n5_ n6_;(try clear hb);(try clear hb2);(try clear hk);(try clear hi);(try clear ho0);obtain ⟨Ao72,co72,eo72⟩:=Kd.R_slice HO562.out;subst eo72)|((with_reducible refine gate_callee (f:=21) rfl ?_);refine goesL_ (some 84) rfl rfl Tryz.func21 (by kernel_rfl) rfl #[.agg #[.slice Ao72 t560.length co72],.string a1] rfl (by (try simp only [List.map_toArray,List.map_cons,List.map_nil]);first|done|rfl|(simp only [List.length_drop,List.length_take];rfl)) ?_;(with_reducible refine (impl_BestSplit.calls _ _ t560 a1 t563 t566 _ ?side1 ?side2 A64.out).mono ?_);(case side1=>repeat (first|exact (Kd.R_reads' HO562.out).2.2|(with_reducible refine Kd.C_alloc ?_ _)|(with_reducible refine Kd.C_drewN ?_ _)|(with_reducible refine Kd.C_drew ?_)));(case side2=>exact (Kd.R_reads' HO562.out).2.1);rintro e w73 ⟨v564,rfl,ho0,hb⟩;refine ⟨_,rfl,?_⟩;have n0_:=Zz.mk (Kd.R_elder' (by (with_reducible repeat first|apply Kd.R_alloc|apply Kd.R_drewN|apply Kd.R_drew);exact HO_6.out) (Kd.R_base ho0) hb);have n1_:=Zz.mk (Kd.R_elder' (by (with_reducible repeat first|apply Kd.R_alloc|apply Kd.R_drewN|apply Kd.R_drew);exact HO_9.out) (Kd.R_base ho0) hb);have n2_:=Zz.mk (Kd.R_below (by (with_reducible repeat first|apply Kd.R_alloc|apply Kd.R_drewN|apply Kd.R_drew);exact HO_545000.out) hb);have n3_:=Zz.mk (Kd.R_below (by (with_reducible repeat first|apply Kd.R_alloc|apply Kd.R_drewN|apply Kd.R_drew);exact HO562.out) hb);have n4_:=Zz.mk (Kd.R_lower (Kd.R_new' (Kd.R_new' ho0 (Kd.R_lt (by (with_reducible repeat first|apply Kd.R_alloc|apply Kd.R_drewN|apply Kd.R_drew);exact HO_6.out))) (Kd.R_lt (by (with_reducible repeat first|apply Kd.R_alloc|apply Kd.R_drewN|apply Kd.R_drew);exact HO_9.out))) (qZ (by repeat (first|(with_reducible first|exact HB.out|apply qA|apply qN|apply q1_|refine qS ?_ GE532.out|refine qS ?_ GE544.out)|exact HB.out))));have n5_:=Zz.mk (bB (g:=gb532) (o:=.cells #[.slice A0_0 l0_0.length c0_0] 24 (0,0)) (by (with_reducible repeat first|apply bN|apply bD|apply bA);exact BK532.out) hb);have n6_:=Zz.mk (bB (g:=gb544) (o:=.cells #[.slice Ao25 t555.length co25] 31 (0,0)) (by (with_reducible repeat first|apply bN|apply bD|apply bA);exact BK544.out) hb);have n7_:=Zz.mk (qP (by repeat (first|(with_reducible first|exact HB.out|apply qA|apply qN|apply q1_|refine qS ?_ GE532.out|refine qS ?_ GE544.out)|exact HB.out)) hb);clear HO_6;clear HO_9;clear HO_545000;clear HO562;clear BK532;clear BK544;clear HB;have HO_6:=n0_;have HO_9:=n1_;have HO_545000:=n2_;have HO562:=n3_;have HO565:=n4_;have BK532:=n5_;have BK544:=n6_;have HB:=n7_;clear n0_ n1_ n2_ n3_ n4_ n5_ n6_ n7_;(try clear hb);(try clear hb2);(try clear hk);(try clear hi);(try clear ho0)))
            (try simp only [Act.put,List.setIfInBounds_toArray,List.set_cons_zero,List.set_cons_succ])
            go_cut [95] (fun v95 wc=>∃ (kq:Nat) (x95_64:Bool),v95=.bool x95_64∧Zz (laws_FnExactBestSplit.j2 kq t558 t557 x95_64=some true)∧Zz (kq≤kj39)∧Zz (Kd.R Kd.string 9 wc w.heap.size (fun _=>True) (.slice Ao66 t545.length co66) t558)∧Zz (Kd.R k70 70 wc w.heap.size (fun _=>True) (.slice Ao25 t555.length co25) t555)∧Zz (wc.heap[gb532]?=some (.cells #[(.slice A0_0 l0_0.length c0_0)] 24 (0,0)))∧Zz (wc.heap[gb544]?=some (.cells #[(.slice Ao25 t555.length co25)] 31 (0,0)))∧Zz (Below w.heap.size w wc))
            case first =>
             have H:=HC65.out
             clear HC65
             replace H:=Option.bind_eq_some_iff.mp H
             obtain ⟨t567,A740,H⟩:=H
             replace H:(if t567=true then (laws_FnExactBestSplit.j2 kj39 t558 t557 (t566 != t540)) else (laws_FnExactBestSplit.j2 kj39 t558 t557 true))=some true:=H
             have A74:=Zz.mk A740
             clear A740
             by_cases c75:t567=true
             ·subst c75
              have H1:(laws_FnExactBestSplit.j2 kj39 t558 t557 (t566 != t540))=some true:=by rw [if_pos rfl] at H;exact H
              clear H
              have H:=H1
              clear H1
              have H':=Zz.mk H
              clear H
              obtain ⟨Ao76,co76,eo76⟩:=Kd.R_slice HO565.out
              subst eo76
              obtain ⟨Ao77,co77,eo77⟩:=Kd.R_slice HO_6.out
              subst eo77
              go_wp2_with (first|((with_reducible refine gate_callee (f:=22) rfl ?_);refine goesL_ (some 89) rfl rfl Tryz.func22 (by kernel_rfl) rfl #[.slice Ao76 t563.length co76,.slice Ao77 t537.length co77] rfl (by (try simp only [List.map_toArray,List.map_cons,List.map_nil]);first|done|rfl|(simp only [List.length_drop,List.length_take];rfl)) ?_;(with_reducible refine (laws_eqStringS.calls kj39 _ _ t563 _ _ t537 true _ ?side1 ?side2 ?side3 ?side4 A74.out).mono ?_);(case side1=>repeat (first|exact (Kd.R_reads' HO565.out).2.2|(with_reducible refine Kd.C_alloc ?_ _)|(with_reducible refine Kd.C_drewN ?_ _)|(with_reducible refine Kd.C_drew ?_)));(case side2=>exact (Kd.R_reads' HO565.out).2.1);(case side3=>repeat (first|exact (Kd.R_reads' HO_6.out).2.2|(with_reducible refine Kd.C_alloc ?_ _)|(with_reducible refine Kd.C_drewN ?_ _)|(with_reducible refine Kd.C_drew ?_)));(case side4=>exact (Kd.R_reads' HO_6.out).2.1);rintro e w' ⟨rfl,⟨nd,rfl⟩⟩;refine ⟨_,rfl,?_⟩))
              go_meet
              case rel=>exact ⟨_,((t566 != t540)),(by first|rfl|(simp;done)|(simp [*];done)),H',⟨by have:=HJ13.out;have:=HJ39.out;first|omega|exact Nat.le_refl _⟩,⟨by (try simp only [hl545000_39]);(with_reducible repeat first|apply Kd.R_alloc|apply Kd.R_drewN|apply Kd.R_drew);exact Kd.R_mono HO_9.out (fun _ hk=>trivial)⟩,⟨by (try simp only [hl545000_39]);(with_reducible repeat first|apply Kd.R_alloc|apply Kd.R_drewN|apply Kd.R_drew);exact Kd.R_mono HO_545000.out (fun _ hk=>trivial)⟩,⟨by (try simp only [hl545000_39]);(with_reducible repeat first|apply bN|apply bD|apply bA);exact BK532.out⟩,⟨by (try simp only [hl545000_39]);(with_reducible repeat first|apply bN|apply bD|apply bA);exact BK544.out⟩,⟨by repeat (first|(with_reducible first|exact HB.out|apply qA|apply qN|apply q1_|refine qS ?_ GE532.out|refine qS ?_ GE544.out)|exact HB.out)⟩⟩
             ·replace c75:=Bool.eq_false_iff.mpr c75
              subst c75
              have H1:(laws_FnExactBestSplit.j2 kj39 t558 t557 true)=some true:=by rw [if_neg (show ¬ (false=true) by decide)] at H;exact H
              exact absurd H1 (by cases kj39 <;> simp [laws_FnExactBestSplit.j2])
            case rest =>
             clear HC65
             try clear c1
             try clear c2
             try clear p2
             try clear c3
             try clear c3b0
             try clear c3b1
             try clear c4
             try clear c5
             try clear c6
             try clear c6b0
             try clear c7
             try clear c8
             try clear c11
             try clear c12
             try clear c20
             try clear c21
             try clear c22
             try clear c23
             try clear c24
             try clear c26
             try clear c30
             try clear c35
             try clear c38
             try clear c45
             try clear c48
             try clear c48b0
             try clear c50
             try clear c55
             try clear c58
             try clear c58b0
             try clear c62
             try clear c62b0
             try clear c62b1
             try clear c69
             try clear c75
             try clear hcz16_0
             try clear hcz18_0
             try clear hcz22_0
             try clear hcz27_0
             try clear hcz46_0
             try clear hcz70_0
             try clear hcz8_0
             try clear hfz16_0
             try clear hfz18_0
             try clear hfz22_0
             try clear hfz27_0
             try clear hfz46_0
             try clear hfz70_0
             try clear hfz8_0
             try clear p2
             obtain ⟨kq,x95_64,rfl,HA,HJ64,HO_9,HO_545000,BK532,BK544,HB⟩:=hcut
             have hl9_64:=(Kd.R_reads' HO_9.out).1
             rw [hl9_64] at HO_9
             (try simp only [hl9_64])
             (try simp only [hl9_64] at BK532)
             (try simp only [hl9_64] at BK544)
             (try simp only [hl9_64] at HO_545000)
             cases kq with
             | zero=>exact absurd HA.out (by simp [laws_FnExactBestSplit.j2])
             | succ kj64 =>
              have H:=HA.out
              clear HA
              simp only [laws_FnExactBestSplit.j2] at H
              by_cases c80:x95_64=true
              ·subst c80
               have H1:(some false)=some true:=by rw [if_pos rfl] at H;exact H
               exact absurd H1 (by simp)
              ·replace c80:=Bool.eq_false_iff.mpr c80
               subst c80
               have H1:((laws_heldStringS.f kj64 t558 1).bind fun t568=>(if t568<0 then (some false) else (if t568=t557 then (some true) else (some false))))=some true:=by rw [if_neg (show ¬ (false=true) by decide)] at H;exact H
               clear H
               have H:=H1
               clear H1
               replace H:=Option.bind_eq_some_iff.mp H
               obtain ⟨t568,A810,H⟩:=H
               replace H:(if t568<0 then (some false) else (if t568=t557 then (some true) else (some false)))=some true:=H
               have A81:=Zz.mk A810
               clear A810
               by_cases c82:t568<0
               ·rw [if_pos c82] at H
                exact absurd H (by simp)
               ·rw [if_neg c82] at H
                have c82b0:decide (t568<0)=false:=decide_eq_false c82
                clear c82
                by_cases c84:t568=t557
                ·rw [if_pos c84] at H
                 have c84b0:(t568 == t557)=true:=beq_iff_eq.mpr c84
                 have c84b1:(t568 != t557)=false:=bne_eq_false_iff_eq.mpr c84
                 clear c84
                 (first|(obtain rfl:=Option.some.inj H)|(have hH_:=Option.some.inj H;try simp only [hH_]))
                 go_wp2_with (first|((with_reducible refine gate_callee (f:=24) rfl ?_);refine goesL_ (some 98) rfl rfl Tryz.func24 (by kernel_rfl) rfl #[.slice Ao66 t558.length co66,.int .i64 1] rfl (by (try simp only [List.map_toArray,List.map_cons,List.map_nil]);first|done|rfl|(simp only [List.length_drop,List.length_take];rfl)) ?_;(with_reducible refine (laws_heldStringS.calls kj64 _ _ t558 1 t568 _ ?side1 ?side2 A81.out).mono ?_);(case side1=>repeat (first|exact (Kd.R_reads' HO_9.out).2.2|(with_reducible refine Kd.C_alloc ?_ _)|(with_reducible refine Kd.C_drewN ?_ _)|(with_reducible refine Kd.C_drew ?_)));(case side2=>exact (Kd.R_reads' HO_9.out).2.1);rintro e w85 ⟨rfl,hb⟩;refine ⟨_,rfl,?_⟩;have n0_:=Zz.mk (Kd.R_below (by (with_reducible repeat first|apply Kd.R_alloc|apply Kd.R_drewN|apply Kd.R_drew);exact HO_9.out) hb);have n1_:=Zz.mk (Kd.R_below (by (with_reducible repeat first|apply Kd.R_alloc|apply Kd.R_drewN|apply Kd.R_drew);exact HO_545000.out) hb);have n2_:=Zz.mk (bB (g:=gb532) (o:=.cells #[.slice A0_0 l0_0.length c0_0] 24 (0,0)) (by (with_reducible repeat first|apply bN|apply bD|apply bA);exact BK532.out) hb);have n3_:=Zz.mk (bB (g:=gb544) (o:=.cells #[.slice Ao25 t555.length co25] 31 (0,0)) (by (with_reducible repeat first|apply bN|apply bD|apply bA);exact BK544.out) hb);have n4_:=Zz.mk (qP (by repeat (first|(with_reducible first|exact HB.out|apply qA|apply qN|apply q1_|refine qS ?_ GE532.out|refine qS ?_ GE544.out)|exact HB.out)) hb);clear HO_9;clear HO_545000;clear BK532;clear BK544;clear HB;have HO_9:=n0_;have HO_545000:=n1_;have BK532:=n2_;have BK544:=n3_;have HB:=n4_;clear n0_ n1_ n2_ n3_ n4_;(try clear hb);(try clear hb2);(try clear hk);(try clear hi)))
                 go_ret
                 exact ⟨by first|rfl|(simp [errW_none,errW_some] <;> rfl)|(simp [*,errW_none,errW_some] <;> rfl),by repeat (first|(with_reducible first|exact HB.out|apply qA|apply qN|apply q1_|refine qS ?_ GE532.out|refine qS ?_ GE544.out)|exact HB.out)⟩
                ·rw [if_neg c84] at H
                 exact absurd H (by simp)
           ·rw [if_neg c62] at H
            exact absurd H (by simp)
      ·replace c38:=Bool.eq_false_iff.mpr c38
       subst c38
       have H1:(some false)=some true:=by rw [if_neg (show ¬ (false=true) by decide)] at H;exact H
       exact absurd H1 (by simp)
end Go.Proofs.YtadpmgdmiaoniaaGreatDoor.Q
namespace Go.Proofs.YtadpmgdmiaoniaaGreatDoor.Q
open Go.RowKit Go.Proofs.YtadpmgdmiaoniaaGreatDoorW.PrintWords Go.Proofs.YtadpmgdmiaoniaaGreatDoorW.PrintLast
theorem markNodeS_l0:∀ (n:Nat) (l:List IN) (m i:Nat),i+n=l.length→l.length≤1048576→m≤1+3 * i→∃ r:Nat × List IN,Ev (fun k=>laws_markNodeS.l0 k l (m:Int) (i:Int)) ((r.1:Int),r.2):=by
  intro n
  induction n with
  | zero =>
    intro l m i h hl hm
    refine ⟨(m,l),Ev.succ ?_⟩
    simp only [laws_markNodeS.l0]
    exact Ev.neg (by omega) (Ev.pure _)
  | succ n ih =>
    intro l m i h hl hm
    have e1:wrap64 ((m:Int)+1)=((m+1:Nat):Int):=by unfold wrap64;omega
    have e2:wrap64 (((m+1:Nat):Int)+1)=((m+2:Nat):Int):=by unfold wrap64;omega
    have e3:wrap64 (((m+2:Nat):Int)+1)=((m+3:Nat):Int):=by unfold wrap64;omega
    obtain ⟨y,hy⟩:∃ y,y=l.set (i:Int).toNat (⟨(m:Int),(rd_T70 l (i:Int)).f1,(rd_T70 l (i:Int)).f2⟩:IN):=⟨_,rfl⟩
    obtain ⟨z,hz⟩:∃ z,z=y.set (i:Int).toNat (⟨(rd_T70 y (i:Int)).f0,((m+1:Nat):Int),(rd_T70 y (i:Int)).f2⟩:IN):=⟨_,rfl⟩
    have hyl:y.length=l.length:=by rw [hy,List.length_set]
    have hzl:z.length=l.length:=by rw [hz,List.length_set,hyl]
    obtain ⟨r,hr⟩:=ih (z.set (i:Int).toNat ⟨(rd_T70 z (i:Int)).f0,(rd_T70 z (i:Int)).f1,((Int.tmod ((m+2:Nat):Int) 3) == 0)⟩) (m+3) (i+1) (by rw [List.length_set,hzl];omega) (by rw [List.length_set,hzl];exact hl) (by omega)
    refine ⟨r,Ev.succ ?_⟩
    simp only [laws_markNodeS.l0,e1,e2,e3,Option.bind_some]
    rw [wnext i (by omega),← hy,← hz]
    exact Ev.pos (by omega) (Ev.pos (by omega) hr)
theorem markTrie_ev (l:List IN) (hl:l.length≤1048576):∃ r:Nat × List IN,Ev (fun k=>laws_markTrie.f k l 1) ((r.1:Int),r.2):=by
  obtain ⟨r,hr⟩:=markNodeS_l0 l.length l 1 0 (by omega) hl (by omega)
  exact ⟨r,by unfold laws_markTrie.f laws_markNodeS.f;exact Ev.bind hr (Ev.pure _)⟩
end Go.Proofs.YtadpmgdmiaoniaaGreatDoor.Q
namespace Go.Proofs.YtadpmgdmiaoniaaGreatDoor.Q
open Go.RowKit Go.Proofs.YtadpmgdmiaoniaaGreatDoorW.PrintWords Go.Proofs.YtadpmgdmiaoniaaGreatDoorW.PrintLast
theorem eqStringS_l0 (a b:List ByteArray) (hab:a.length=b.length) (hl:a.length≤1099511627776):∀ (n i:Nat),i+n=a.length→Ev (fun k=>laws_eqStringS.l0 k a b (i:Int)) (decide (a.drop i=b.drop i)):=by
  intro n
  induction n with
  | zero =>
    intro i h
    refine Ev.succ ?_
    simp only [laws_eqStringS.l0]
    refine Ev.neg (by omega) ?_
    rw [List.drop_of_length_le (by omega),List.drop_of_length_le (by omega)]
    exact Ev.pure _
  | succ n ih =>
    intro i h
    refine Ev.succ ?_
    simp only [laws_eqStringS.l0]
    have hi:i<a.length:=by omega
    have hi2:i<b.length:=by omega
    refine Ev.pos (by omega) (Ev.pos (by omega) (Ev.pos (by omega) ?_))
    rw [rd_nat a hi,rd_nat b hi2]
    have hd:(a.drop i=b.drop i) ↔ (a[i]=b[i]∧a.drop (i+1)=b.drop (i+1)):=by
      rw [List.drop_eq_getElem_cons hi,List.drop_eq_getElem_cons hi2]
      exact List.cons_eq_cons
    have hd2:decide (a.drop i=b.drop i)=decide (a[i]=b[i]∧a.drop (i+1)=b.drop (i+1)):=decide_eq_decide.2 hd
    rw [hd2]
    by_cases e:a[i]=b[i]
    · refine Ev.pos ((tl_eq _ _).2 e) ?_
      rw [wnext i (by omega)]
      have hq:=ih (i+1) (by omega)
      have e2:decide (a[i]=b[i]∧a.drop (i+1)=b.drop (i+1))=decide (a.drop (i+1)=b.drop (i+1)):=decide_eq_decide.2 (and_iff_right e)
      rw [e2]
      exact hq
    · refine Ev.neg (fun h2=>e ((tl_eq _ _).1 h2)) ?_
      have e2:decide (a[i]=b[i]∧a.drop (i+1)=b.drop (i+1))=false:=decide_eq_false (fun h=>e h.1)
      rw [e2]
      exact Ev.pure _
theorem eqStringS_ev (a b:List ByteArray) (hl:a.length≤1099511627776):Ev (fun k=>laws_eqStringS.f k a b) (decide (a=b)):=by
  unfold laws_eqStringS.f
  by_cases hab:a.length=b.length
  · refine Ev.pos (by omega) ?_
    simpa using eqStringS_l0 a b hab hl a.length 0 (by omega)
  · rw [decide_eq_false (fun h=>hab (congrArg List.length h))]
    exact Ev.neg (by omega) (Ev.pure _)
theorem digW_size (n:Int):(strOfNums ([(wrap64 (48+(Int.tmod n 10))) % 256]:List Int)).size=1:=rfl
theorem markText_l0:∀ (d n:Nat) (s:ByteArray),n<10 ^ d→d≤20→n≤9223372036854775807→s.size+d≤40→∃ r,Ev (fun k=>laws_markText.l0 k (n:Int) s) r:=by
  intro d
  induction d with
  | zero =>
    intro n s h hd hn hs
    obtain rfl:n=0:=by simpa using h
    refine ⟨⟨#[109]⟩ ++ s,Ev.succ ?_⟩
    simp only [laws_markText.l0]
    exact Ev.neg (by decide) (Ev.pos (by omega) (Ev.pure _))
  | succ d ih =>
    intro n s h hd hn hs
    by_cases h0:n=0
    · subst h0
      refine ⟨⟨#[109]⟩ ++ s,Ev.succ ?_⟩
      simp only [laws_markText.l0]
      exact Ev.neg (by decide) (Ev.pos (by omega) (Ev.pure _))
    · have hz:=digW_size (n:Int)
      have hq:n / 10<10 ^ d:=by rw [Nat.pow_succ] at h;omega
      have e:wrap64 (Int.tdiv (n:Int) 10)=((n / 10:Nat):Int):=by
        have:Int.tdiv (n:Int) 10=((n / 10:Nat):Int):=by rw [Int.tdiv_eq_ediv_of_nonneg (by omega)];omega
        rw [this];unfold wrap64;omega
      obtain ⟨r,hr⟩:=ih (n / 10) (strOfNums ([(wrap64 (48+(Int.tmod (n:Int) 10))) % 256]:List Int) ++ s) hq (by omega) (by omega) (by rw [ByteArray.size_append,hz];omega)
      refine ⟨r,Ev.succ ?_⟩
      simp only [laws_markText.l0,e,Option.bind_some]
      refine Ev.pos (by omega) (Ev.pos (by rw [hz];omega) hr)
theorem markText_ev (n:Nat) (h0:0<n) (h:n≤9223372036854775807):∃ r,Ev (fun k=>laws_markText.f k (n:Int)) r:=by
  obtain ⟨r,hr⟩:=markText_l0 20 n ⟨#[]⟩ (by omega) (Nat.le_refl _) h (by decide)
  refine ⟨r,?_⟩
  unfold laws_markText.f
  exact Ev.neg (by omega) hr
def Marked (l:List ByteArray) (n:Nat):Prop:=∀ i (h:i<l.length),Ev (fun k=>laws_markText.f k ((n+i:Nat):Int)) l[i]
theorem markS_l0:∀ (d:Nat) (l:List ByteArray) (i:Nat),i+d=l.length→l.length≤1099511627776→(∀ j (h:j<l.length),j<i→Ev (fun k=>laws_markText.f k ((1+j:Nat):Int)) l[j]) →
    ∃ ms:List ByteArray,ms.length=l.length∧Marked ms 1∧Ev (fun k=>laws_markStringS.l0 k l ((1+i:Nat):Int) (i:Int)) (((1+l.length:Nat):Int),ms):=by
  intro d
  induction d with
  | zero =>
    intro l i h hl hm
    refine ⟨l,rfl,fun j hj=>hm j hj (by omega),Ev.succ ?_⟩
    simp only [laws_markStringS.l0]
    obtain rfl:i=l.length:=by omega
    exact Ev.neg (by omega) (Ev.pure _)
  | succ d ih =>
    intro l i h hl hm
    obtain ⟨t,ht⟩:=markText_ev (1+i) (by omega) (by omega)
    obtain ⟨ms,h1,h2,h3⟩:=ih (l.set i t) (i+1) (by rw [List.length_set];omega) (by rw [List.length_set];exact hl) (fun j hj hji=>by
      rw [List.length_set] at hj
      rw [List.getElem_set]
      split
      · rename_i e;subst e;exact ht
      · exact hm j hj (by omega))
    rw [List.length_set] at h1 h3
    refine ⟨ms,h1,h2,Ev.succ ?_⟩
    simp only [laws_markStringS.l0,Int.toNat_natCast]
    rw [wnext i (by omega),wnext (1+i) (by omega)]
    exact Ev.pos (by omega) (Ev.bind ht (Ev.pos (by omega) h3))
end Go.Proofs.YtadpmgdmiaoniaaGreatDoor.Q
namespace Go.Proofs.YtadpmgdmiaoniaaGreatDoor.Q
open Go.RowKit Go.Proofs.YtadpmgdmiaoniaaGreatDoorW.PrintWords Go.Proofs.YtadpmgdmiaoniaaGreatDoorW.PrintLast
theorem heldS_l0 (l:List ByteArray) (hl:l.length≤1099511627776) (hm:Marked l 1):∀ (d i:Nat),i+d=l.length→Ev (fun k=>laws_heldStringS.l0 k l ((1+i:Nat):Int) (i:Int)) ((1+l.length:Nat):Int):=by
  intro d
  induction d with
  | zero =>
    intro i h
    refine Ev.succ ?_
    simp only [laws_heldStringS.l0]
    obtain rfl:i=l.length:=by omega
    exact Ev.neg (by omega) (Ev.pure _)
  | succ d ih =>
    intro i h
    refine Ev.succ ?_
    simp only [laws_heldStringS.l0]
    have hi:i<l.length:=by omega
    rw [rd_nat l hi,wnext i (by omega),wnext (1+i) (by omega)]
    exact Ev.pos (by omega) (Ev.pos (by omega) (Ev.bind (hm i hi) (Ev.pos rfl (ih (i+1) (by omega)))))
theorem markS_ev (l:List ByteArray) (hl:l.length≤1099511627776):∃ ms:List ByteArray,Ev (fun k=>laws_markStringS.f k l 1) (((1+l.length:Nat):Int),ms)∧Ev (fun k=>laws_heldStringS.f k ms 1) ((1+l.length:Nat):Int):=by
  obtain ⟨ms,h1,h2,h3⟩:=markS_l0 l.length l 0 (by omega) hl (fun j _ hj=>absurd hj (Nat.not_lt_zero _))
  refine ⟨ms,?_,?_⟩
  · unfold laws_markStringS.f;exact h3
  · unfold laws_heldStringS.f
    have:=heldS_l0 ms (by omega) h2 ms.length 0 (by omega)
    rw [h1] at this
    exact this
end Go.Proofs.YtadpmgdmiaoniaaGreatDoor.Q
namespace Go.Proofs.YtadpmgdmiaoniaaGreatDoor.Q
open Go.ChangeShapes Go.WideShapes Go.Deep Go.RowKit Go.Proofs.YtadpmgdmiaoniaaGreatDoorW.PrintWords Go.Proofs.YtadpmgdmiaoniaaGreatDoorW.PrintLast Go.Proofs.YtadpmgdmiaoniaaGreatDoorW.PrintMore
def I64 (n:Int):Prop:=-9223372036854775808≤n∧n≤9223372036854775807
theorem I64_of {n:Int} (h:(Lit.int .i64 n).wf=true):I64 n:=by
  have h1:IntKind.i64.min=-9223372036854775808:=by decide
  simp [Lit.wf,h1] at h
  exact h
set_option maxRecDepth 100000 in
theorem open_trie {H:Type} {enc:TypeId × Value→H} {w:World} {base b0:Nat} {spare:Nat→Bool} {held:Bool} {r:Reach} {v:Value} {d:DataW H} {p:List MemPlace} (hv:Value.okWide Tryz.prog w r b0 24 v) (h:DataW.Trod enc Tryz.prog w base spare held 24 v d p) :
    ∃ (A:Option Addr) (c:Nat) (l:List S75),v=.agg #[.slice A l.length c]∧Kd.C k75 w A l.length l∧l.length≤c∧l.length≤maxLen∧∀ x ∈ l,I64 x.f0∧I64 x.f1:=by
  obtain ⟨cs,rfl,hsz⟩:=okWide_struct Tryz.underlying24 hv
  have hct:Tryz.prog.cellsOf 24=1:=by kernel_rfl
  have hsz1:cs.size=1:=hsz.trans hct
  obtain ⟨c0,rfl⟩:∃ c0,cs=#[c0]:=⟨cs[0],by
    apply Array.ext
    · simp [hsz1]
    · intro i h1 h2
      have:i=0:=by omega
      subst this;rfl⟩
  obtain ⟨fuel,hf⟩:=h
  obtain ⟨xs,n,_,hx,_,hlen,hg⟩:=DataW.trod_struct Tryz.underlying24 hf
  have h0:=hg 0 _ rfl
  have hc1:Tryz.prog.cellsOf 22=1:=by kernel_rfl
  simp only [Value.cells,List.drop_zero,hc1] at h0
  have h0':DataW.trod enc Tryz.prog w base spare held n 22 [c0]=xs[0]?:=h0
  rw [List.getElem?_eq_getElem (show 0<xs.length by rw [hlen];decide)] at h0'
  have hC:Tryz.prog.cellsOf 75=3:=by kernel_rfl
  have i1:Tryz.prog.cellsOf 3=1:=by kernel_rfl
  have i2:Tryz.prog.cellsOf 4=1:=by kernel_rfl
  rcases open_slice Tryz.underlying22 h0' with ⟨e,_⟩|⟨a,len,cap,m,n',D,Pl,e,_,hl,hm,hmm,_,hi⟩
  · injection e with e
    subst e
    exact ⟨none,0,[],rfl,⟨rfl,by decide,fun h=>absurd h (by decide)⟩,Nat.le_refl _,Nat.zero_le _,fun x hx=>by cases hx⟩
  · injection e with e
    subst e
    have hlm:len≤m:=by rw [hmm];split <;> omega
    have hex:∀ i,i<len→∃ x:S75,I64 x.f0∧I64 x.f1∧∀ j u,[Value.int .i64 x.f0,.int .i64 x.f1,.bool x.f2][j]?=some u→w.cell? (a.add (i * 3+j))=some u:=by
      intro i hil
      obtain ⟨cs',hc,ht'⟩:=hi i (by omega)
      rw [hC] at hc
      obtain ⟨ys,n2,_,_,hcl,hyl,hfl⟩:=DataW.trod_struct Tryz.underlying75 ht'
      obtain ⟨_,hcl3,hat⟩:=World.cells?_some hc
      have f0:=hfl 0 _ rfl
      have f1:=hfl 1 _ rfl
      have f2:=hfl 2 _ rfl
      rw [hC] at hcl
      obtain ⟨u0,u1,u2,rfl⟩:∃ u0 u1 u2,cs'=[u0,u1,u2]:=by
        match cs',hcl with
        | [u0,u1,u2],_=>exact ⟨u0,u1,u2,rfl⟩
      replace f0:DataW.trod enc Tryz.prog w base spare held n2 3 ((List.drop 0 [u0,u1,u2]).take (Tryz.prog.cellsOf 3))=ys[0]?:=f0
      rw [i1] at f0
      replace f0:DataW.trod enc Tryz.prog w base spare held n2 3 [u0]=ys[0]?:=f0
      replace f1:DataW.trod enc Tryz.prog w base spare held n2 3 ((List.drop 1 [u0,u1,u2]).take (Tryz.prog.cellsOf 3))=ys[1]?:=f1
      rw [i1] at f1
      replace f1:DataW.trod enc Tryz.prog w base spare held n2 3 [u1]=ys[1]?:=f1
      replace f2:DataW.trod enc Tryz.prog w base spare held n2 4 ((List.drop 2 [u0,u1,u2]).take (Tryz.prog.cellsOf 4))=ys[2]?:=f2
      rw [i2] at f2
      replace f2:DataW.trod enc Tryz.prog w base spare held n2 4 [u2]=ys[2]?:=f2
      rw [List.getElem?_eq_getElem (show 0<ys.length by rw [hyl];decide)] at f0
      rw [List.getElem?_eq_getElem (show 1<ys.length by rw [hyl];decide)] at f1
      rw [List.getElem?_eq_getElem (show 2<ys.length by rw [hyl];decide)] at f2
      obtain ⟨x0,e0,_,w0⟩:=DataW.trod_int Tryz.underlying3 f0
      obtain ⟨x1,e1,_,w1⟩:=DataW.trod_int Tryz.underlying3 f1
      obtain ⟨x2,e2,_⟩:=DataW.trod_bool Tryz.underlying4 f2
      injection e0 with e0
      injection e1 with e1
      injection e2 with e2
      subst e0;subst e1;subst e2
      refine ⟨⟨x0,x1,x2⟩,I64_of w0,I64_of w1,fun j u hj=>?_⟩
      obtain ⟨hj3,hju⟩:=List.getElem?_eq_some_iff.1 hj
      rw [← Go.Deep.add_add,hat j (show j<3 from hj3)]
      exact hj
    obtain ⟨f,hf⟩:∃ f:Nat→S75,∀ i,i<len→I64 (f i).f0∧I64 (f i).f1∧∀ j u,[Value.int .i64 (f i).f0,.int .i64 (f i).f1,.bool (f i).f2][j]?=some u→w.cell? (a.add (i * 3+j))=some u :=
      ⟨fun i=>if h:i<len then Classical.choose (hex i h) else ⟨0,0,false⟩,fun i h=>by simp only [h,dite_true];exact Classical.choose_spec (hex i h)⟩
    have hfl:((List.range len).map f).length=len:=by simp
    refine ⟨some a,cap,(List.range len).map f,by rw [hfl],?_,by rw [hfl];exact hl,by rw [hfl];omega,?_⟩
    · rw [hfl]
      refine ⟨by simp,by unfold maxLen at hm;omega,fun _=>⟨a,rfl,fun j p hj=>?_⟩⟩
      obtain ⟨hjl,rfl⟩:=List.getElem?_eq_some_iff.1 hj
      rw [hfl] at hjl
      refine ⟨_,rfl,k75_mk w _,fun i u hu=>?_⟩
      simp only [List.getElem_map,List.getElem_range] at hu
      exact (hf j hjl).2.2 i u hu
    · intro x hx
      obtain ⟨i,hi,rfl⟩:=List.mem_map.1 hx
      exact ⟨(hf i (List.mem_range.1 hi)).1,(hf i (List.mem_range.1 hi)).2.1⟩
end Go.Proofs.YtadpmgdmiaoniaaGreatDoor.Q
namespace Go.Proofs.YtadpmgdmiaoniaaGreatDoor.Q
open Go.RowKit Go.Proofs.YtadpmgdmiaoniaaGreatDoorW.PrintWords Go.Proofs.YtadpmgdmiaoniaaGreatDoorW.PrintLast
theorem few_l1 {ws:List ByteArray} (p:ByteArray) (hp:p.size≤60) (a:Nat) (ha:a<p.size) (row:List Int) (hrl:row.length≤40) (hrow:∀ n ∈ row,1≤n∧n+a≤p.size) (o:List ByteArray) (m0:List Int) (r:List ByteArray × Bool)
    (hn:Ev (fun k=>spec_BestSplit.l0 k p o ws (row.foldl (fewN a) m0) ((a:Int) - 1)) r):∀ (n i:Nat) (m:List Int),i+n=row.length→m.length=p.size+1→m=(row.take i).foldl (fewN a) m0→Ev (fun k=>spec_BestSplit.l1 k p o ws m (a:Int) row (i:Int)) r:=by
  intro n
  induction n with
  | zero =>
    intro i m h hl he
    rw [List.take_of_length_le (by omega)] at he
    refine Ev.succ ?_
    simp only [spec_BestSplit.l1]
    rw [wprev a (by omega),he]
    exact Ev.neg (by omega) hn
  | succ n ih =>
    intro i m h hl he
    have hi:i<row.length:=by omega
    have hm:=hrow _ (List.getElem_mem hi)
    have ew:wrap64 ((a:Int)+row[i])=(a:Int)+row[i]:=by unfold wrap64;omega
    have hnx:(row.take (i+1)).foldl (fewN a) m0=fewN a m row[i]:=by rw [List.take_succ_eq_append_getElem hi,List.foldl_append,← he];rfl
    refine Ev.succ ?_
    simp only [spec_BestSplit.l1,rdI_nat row hi,Int.toNat_natCast]
    rw [ew,wnext i (by omega)]
    refine Ev.pos (by omega) (Ev.pos (by omega) (Ev.pos (by omega) (Ev.pos (by omega) ?_)))
    by_cases h1:0≤rd m ((a:Int)+row[i])
    · refine Ev.pos (by omega) (Ev.pos (by omega) (Ev.pos (by omega) ?_))
      by_cases h2:rd m (a:Int)<0
      · refine Ev.pos h2 (ih (i+1) _ (by omega) (by simpa using hl) ?_)
        rw [hnx,fewN,if_pos ⟨h1,.inl h2⟩]
      · refine Ev.neg h2 ?_
        by_cases h3:wrap64 (rd m ((a:Int)+row[i])+1)<rd m (a:Int)
        · refine Ev.pos h3 (ih (i+1) _ (by omega) (by simpa using hl) ?_)
          rw [hnx,fewN,if_pos ⟨h1,.inr h3⟩]
        · refine Ev.neg h3 (ih (i+1) _ (by omega) hl ?_)
          rw [hnx,fewN,if_neg (fun h=>h.2.elim h2 h3)]
    · refine Ev.neg (by omega) (ih (i+1) _ (by omega) hl ?_)
      rw [hnx,fewN,if_neg (fun h=>h1 h.1)]
theorem fewN_len (a:Nat) (m:List Int) (n:Int):(fewN a m n).length=m.length:=by unfold fewN;split <;> simp
theorem fold_flen (a:Nat):∀ (row:List Int) (m:List Int),(row.foldl (fewN a) m).length=m.length
  | [],m=>rfl
  | n :: t,m=>(fold_flen a t (fewN a m n)).trans (fewN_len a m n)
theorem few_l0 {ws:List ByteArray} (hv:VW ws) (p:ByteArray) (hp:p.size≤60) (o:List ByteArray) (r:List ByteArray × Bool):∀ (a:Nat) (m:List Int),a≤p.size→m.length=p.size+1→Ev (fun k=>if rd (fewF ws p a m) 0<0 then some (o,false) else spec_BestSplit.l2 k p o ws (fewF ws p a m) 0) r→Ev (fun k=>spec_BestSplit.l0 k p o ws m ((a:Int) - 1)) r
  | 0,m,ha,hl,h=>by
    refine Ev.succ ?_
    simp only [spec_BestSplit.l0]
    refine Ev.neg (by omega) (Ev.pos (by omega) ?_)
    exact h
  | a+1,m,ha,hl,h=>by
    have ih:=few_l0 hv p hp o r a ((rowAt ws p a).foldl (fewN a) (m.set a (-1))) (by omega) (by rw [fold_flen,List.length_set];exact hl) h
    refine Ev.succ ?_
    simp only [spec_BestSplit.l0]
    rw [show ((a+1:Nat):Int) - 1=(a:Int) by omega]
    simp only [Int.toNat_natCast]
    exact Ev.pos (by omega) (Ev.pos (by omega) (Ev.pos (by omega) (Ev.bind (matches_ev hv p a (by omega) hp) (few_l1 p hp a (by omega) (rowAt ws p a) (rowAt_length hv p a) (fun n hn=>rowAt_mem hn) o _ _ ih (rowAt ws p a).length 0 _ (by omega) (by simpa using hl) rfl))))
theorem ok_few {ws:List ByteArray} {p:ByteArray} (hp:p.size≤60) {f m b:List Int} (h:From ws p 0 f m b) {a:Nat} (ha:a<p.size) (hm:rd m (a:Int) ≠ 0) {n:Int} (hn:n ∈ rowAt ws p a):(rd f ((a:Int)+n)=wrap64 (rd f (a:Int) - 1)) ↔ okN m b a n=true:=by
  have hB:=h.behind a (by omega) (by omega)
  obtain ⟨y,hy1,hy2,hy3⟩:=hB.led hm ha
  have hy4:=rowAt_mem hy1
  obtain ⟨z,rfl⟩:∃ z:Nat,y=(z:Int):=⟨y.toNat,by omega⟩
  have hn4:=rowAt_mem hn
  obtain ⟨q,rfl⟩:∃ q:Nat,n=(q:Int):=⟨n.toNat,by omega⟩
  have ez:(a:Int)+(z:Int)=((a+z:Nat):Int):=by omega
  have eq:(a:Int)+(q:Int)=((a+q:Nat):Int):=by omega
  rw [ez] at hy2 hy3
  have hz:=(h.behind (a+z) (by omega) (by omega)).b0 hy2
  have hb:=hB.b0 hm
  have ew:wrap64 (rd b (a:Int) - 1)=rd b (a:Int) - 1:=by unfold wrap64;omega
  have hfa:=h.of a (by omega) (by omega)
  unfold Of at hfa
  rw [if_neg hm] at hfa
  have hfq:=h.of (a+q) (by omega) (by omega)
  unfold Of at hfq
  have hmq:=(h.behind (a+q) (by omega) (by omega)).m0
  unfold okN
  rw [eq,hfa,hfq,ew,Bool.and_eq_true,decide_eq_true_eq,beq_iff_eq]
  by_cases h0:rd m ((a+q:Nat):Int)=0
  · rw [if_pos h0]
    exact ⟨fun e=>by omega,fun e=>by omega⟩
  · rw [if_neg h0]
    exact ⟨fun e=>⟨by omega,e⟩,fun e=>e.2⟩
theorem rev_find {α:Type} {q:α→Bool} (l:List α) (j:Nat) (hj:j<l.length) (h1:q l[j]=true) (h2:∀ i (hi:i<l.length),j<i→q l[i]=false):l.reverse.find? q=some l[j]:=by
  have e:l=l.take j ++ l[j] :: l.drop (j+1):=by rw [List.getElem_cons_drop,List.take_append_drop]
  conv=>lhs;rw [e]
  rw [List.reverse_append,List.reverse_cons,List.append_assoc,List.find?_append]
  have hn:(l.drop (j+1)).reverse.find? q=none:=by
    rw [List.find?_eq_none]
    intro x hx
    obtain ⟨i,hi,rfl⟩:=List.getElem_of_mem (List.mem_reverse.1 hx)
    rw [List.getElem_drop]
    rw [h2 _ _ (by omega)]
    decide
  rw [hn]
  simp [h1]
theorem best_l3 {ws:List ByteArray} (p:ByteArray) (hp:p.size≤60) {f m b:List Int} (hF:From ws p 0 f m b) (a:Nat) (ha:a<p.size) (hm:rd m (a:Int) ≠ 0) (hrl:(rowAt ws p a).length≤40) (o:List ByteArray) (ho:o.length≤a) (r:List ByteArray × Bool)
    (next:∀ (j:Nat) (hj:j<(rowAt ws p a).length),okN m b a (rowAt ws p a)[j]=true→(∀ i (hi:i<(rowAt ws p a).length),j<i→okN m b a (rowAt ws p a)[i]=false)→Ev (fun k=>spec_BestSplit.l2 k p (o ++ [p.extract a ((a:Int)+(rowAt ws p a)[j]).toNat]) ws f ((a:Int)+(rowAt ws p a)[j])) r) :
    ∀ (j:Nat) (hj:j<(rowAt ws p a).length),(∀ i (hi:i<(rowAt ws p a).length),j<i→okN m b a (rowAt ws p a)[i]=false)→(∃ i,∃ hi:i<(rowAt ws p a).length,i≤j∧okN m b a (rowAt ws p a)[i]=true)→Ev (fun k=>spec_BestSplit.l3 k p o ws f (a:Int) (rowAt ws p a) (j:Int)) r:=by
  intro j
  have hlf:=hF.lf
  induction j with
  | zero =>
    intro hj h1 ⟨i,hi,hij,hok⟩
    obtain rfl:i=0:=by omega
    have hmem:=List.getElem_mem hi
    have hmm:=rowAt_mem hmem
    have ew:wrap64 ((a:Int)+(rowAt ws p a)[0])=(a:Int)+(rowAt ws p a)[0]:=by unfold wrap64;omega
    refine Ev.succ ?_
    simp only [spec_BestSplit.l3,rdI_nat _ hj]
    rw [ew]
    simp only [Int.toNat_natCast]
    exact Ev.pos (by omega) (Ev.pos (by omega) (Ev.pos (by omega) (Ev.pos (by omega) (Ev.pos (by omega) (Ev.pos (by omega) (Ev.pos ((ok_few hp hF ha hm hmem).2 hok) (Ev.pos (by omega) (Ev.pos (by omega) (Ev.pos (by omega) (next 0 hj hok h1))))))))))
  | succ j ih =>
    intro hj h1 ⟨i,hi,hij,hok⟩
    have hmem:=List.getElem_mem hj
    have hmm:=rowAt_mem hmem
    have ew:wrap64 ((a:Int)+(rowAt ws p a)[j+1])=(a:Int)+(rowAt ws p a)[j+1]:=by unfold wrap64;omega
    refine Ev.succ ?_
    simp only [spec_BestSplit.l3,rdI_nat _ hj]
    rw [ew]
    simp only [Int.toNat_natCast]
    by_cases hq:okN m b a (rowAt ws p a)[j+1]=true
    · exact Ev.pos (by omega) (Ev.pos (by omega) (Ev.pos (by omega) (Ev.pos (by omega) (Ev.pos (by omega) (Ev.pos (by omega) (Ev.pos ((ok_few hp hF ha hm hmem).2 hq) (Ev.pos (by omega) (Ev.pos (by omega) (Ev.pos (by omega) (next (j+1) hj hq h1))))))))))
    · have hne:¬ (rd f ((a:Int)+(rowAt ws p a)[j+1])=wrap64 (rd f (a:Int) - 1)):=fun e=>hq ((ok_few hp hF ha hm hmem).1 e)
      have ej:wrap64 (((j+1:Nat):Int) - 1)=(j:Int):=by unfold wrap64;omega
      rw [ej]
      have hij':i≤j:=by
        by_cases e:i=j+1
        · subst e;exact absurd hok hq
        · omega
      exact Ev.pos (by omega) (Ev.pos (by omega) (Ev.pos (by omega) (Ev.pos (by omega) (Ev.pos (by omega) (Ev.pos (by omega) (Ev.neg hne (ih (by omega) (fun i2 hi2 h2=>by
        by_cases e:i2=j+1
        · subst e;simpa using hq
        · exact h1 i2 hi2 (by omega)) ⟨i,hi,hij',hok⟩)))))))
theorem best_l2 {ws:List ByteArray} (hv:VW ws) (p:ByteArray) (hp:p.size≤60) {f m b:List Int} (hF:From ws p 0 f m b):∀ (k0 a:Nat) (o:List ByteArray),p.size - a≤k0→a≤p.size→rd m (a:Int) ≠ 0→o.length≤a→Ev (fun k=>spec_BestSplit.l2 k p o ws f (a:Int)) (bestF ws p m b k0 a o,true):=by
  intro k0
  induction k0 with
  | zero =>
    intro a o h ha hm ho
    refine Ev.succ ?_
    simp only [spec_BestSplit.l2]
    exact Ev.neg (by omega) (Ev.pure _)
  | succ k0 ih =>
    intro a o h ha hm ho
    refine Ev.succ ?_
    simp only [spec_BestSplit.l2]
    by_cases hlt:a<p.size
    · obtain ⟨y,hy1,hy2,hy3⟩:=(hF.behind a (by omega) (by omega)).led hm hlt
      have hyok:okN m b a y=true:=by
        have hy4:=rowAt_mem hy1
        obtain ⟨z,rfl⟩:∃ z:Nat,y=(z:Int):=⟨y.toNat,by omega⟩
        have hz:=hF.behind (a+z) (by omega) (by omega)
        have hb:=(hF.behind a (by omega) (by omega)).b0 hm
        have ez:(a:Int)+(z:Int)=((a+z:Nat):Int):=by omega
        have ew:wrap64 (rd b (a:Int) - 1)=rd b (a:Int) - 1:=by unfold wrap64;omega
        have h0:=hz.m0
        rw [ez] at hy2 hy3
        unfold okN
        rw [ez,ew,Bool.and_eq_true,decide_eq_true_eq,beq_iff_eq]
        exact ⟨by omega,hy3⟩
      obtain ⟨i,hi,hiy⟩:=List.getElem_of_mem hy1
      have hrl:=rowAt_length hv p a
      have ew:wrap64 (((rowAt ws p a).length:Int) - 1)=(((rowAt ws p a).length - 1:Nat):Int):=by unfold wrap64;omega
      refine Ev.pos (by omega) (Ev.bind (matches_ev hv p a ha hp) ?_)
      rw [ew]
      refine best_l3 p hp hF a hlt hm hrl o ho _ (fun j hj hok hrest=>?_) _ (by omega) (fun i2 hi2 h2=>by omega) ⟨i,hi,by omega,by rw [hiy];exact hyok⟩
      have hmm:=rowAt_mem (List.getElem_mem hj)
      have hfind:=rev_find (q:=okN m b a) (rowAt ws p a) j hj hok hrest
      have hok2:=hok
      unfold okN at hok2
      rw [Bool.and_eq_true,decide_eq_true_eq] at hok2
      obtain ⟨q,hq⟩:∃ q:Nat,(rowAt ws p a)[j]=(q:Int):=⟨((rowAt ws p a)[j]).toNat,by omega⟩
      have hm2:=hok2.1
      rw [hq] at hfind hmm hm2 ⊢
      have eq:(a:Int)+(q:Int)=((a+q:Nat):Int):=by omega
      have eb:bestF ws p m b (k0+1) a o=bestF ws p m b k0 (a+q) (o ++ [p.extract a (a+q)]):=by
        rw [bestF,if_pos hlt,hfind]
        simp only [Int.toNat_natCast]
      rw [eb,eq]
      rw [eq] at hm2
      simp only [Int.toNat_natCast]
      exact ih (a+q) _ (by omega) (by omega) (by omega) (by simp;omega)
    · have e:bestF ws p m b (k0+1) a o=o:=by rw [bestF,if_neg hlt]
      rw [e]
      exact Ev.neg (by omega) (Ev.pure _)
theorem bestF_len (ws:List ByteArray) (p:ByteArray) (m b:List Int):∀ (k a:Nat) (o:List ByteArray),(bestF ws p m b k a o).length≤o.length+k
  | 0,a,o=>Nat.le_refl _
  | k+1,a,o=>by
    rw [bestF]
    split
    · split
      · rename_i n _
        have:=bestF_len ws p m b k (a+n.toNat) (o ++ [p.extract a (a+n.toNat)])
        simp at this
        omega
      · omega
    · omega
theorem both_BestSplit (l0:List IN) (a1:ByteArray):∃ r,Ev (fun k=>spec_BestSplit.f k l0 a1) r∧Ev (fun _=>impl_BestSplit.f l0 a1) r∧r.1.length≤1099511627776:=by
  have hg:=good_ev l0 a1
  unfold spec_BestSplit.f impl_BestSplit.f
  rcases trie_split l0 with ht0|⟨ws,hv,rfl,ht0,hwa⟩
  · rw [ht0,Bool.false_and] at hg
    exact ⟨([],false),Ev.bindc rfl (Ev.bind hg (Ev.neg (by decide) (Ev.pure _))),by rw [ht0];exact Ev.pure _,by simp⟩
  · by_cases ho:okPass a1
    · rw [ht0,decide_eq_true ho] at hg
      have hp:=ho.1
      have hF:=few_splits hv hp
      have hlen:=bestF_len ws a1 (splitsW ws a1).1 (splitsW ws a1).2 a1.size 0 []
      have ew:wrap64 ((a1.size:Int)+1)=((a1.size+1:Nat):Int):=by unfold wrap64;omega
      have hOf:=hF.of 0 (by omega) (by omega)
      unfold Of at hOf
      rw [show ((0:Nat):Int)=0 from rfl] at hOf
      have start:∀ r,Ev (fun k=>if rd (fewW ws a1) 0<0 then some ([],false) else spec_BestSplit.l2 k a1 [] ws (fewW ws a1) 0) r→Ev (fun k=>(spec_l3Good.f k (trieW ws) a1).bind fun t446=>(if t446=true then ((spec_l2Words.f k (trieW ws)).bind fun t447=>(if 0≤(wrap64 ((a1.size:Int)+1)) then (if (wrap64 ((a1.size:Int)+1):Int).toNat≤35184372088832 then (spec_BestSplit.l0 k a1 [] t447 (List.replicate (wrap64 ((a1.size:Int)+1):Int).toNat 0) (wrap64 ((a1.size:Int) - 1))) else (none)) else (none))) else (some ([],false)))) r:=by
        intro r hr
        refine Ev.bind hg (Ev.pos rfl (Ev.bind (specWords hv) ?_))
        rw [ew,wprev a1.size (by omega)]
        simp only [Int.toNat_natCast]
        exact Ev.pos (by omega) (Ev.pos (by omega) (few_l0 hv a1 hp [] r a1.size _ (Nat.le_refl _) (by simp) hr))
      by_cases h0:rd (splitsW ws a1).1 0=0
      · have hneg:rd (fewW ws a1) 0<0:=by
          rw [if_pos h0] at hOf
          have:rd (fewW ws a1) 0=-1:=hOf
          omega
        refine ⟨([],false),Ev.bindc rfl (start _ (Ev.pos hneg (Ev.pure _))),?_,by simp⟩
        rw [ht0,hwa,decide_eq_true ho]
        simp only [Bool.and_self,if_true,if_pos h0]
        exact Ev.pure _
      · have hpos:¬ rd (fewW ws a1) 0<0:=by
          have hb:=(hF.behind 0 (by omega) (by omega)).b0 h0
          rw [if_neg h0] at hOf
          have e1:rd (fewW ws a1) 0=rd (splitsW ws a1).2 ((0:Nat):Int):=hOf
          rw [e1]
          omega
        refine ⟨(bestW ws a1,true),Ev.bindc rfl (start _ (Ev.neg hpos ?_)),?_,?_⟩
        · have h:=best_l2 hv a1 hp hF a1.size 0 [] (by omega) (by omega) h0 (by simp)
          unfold bestW
          simpa using h
        · rw [ht0,hwa,decide_eq_true ho]
          simp only [Bool.and_self,if_true,if_neg h0]
          exact Ev.pure _
        · unfold bestW
          simp only [List.length_nil] at hlen ⊢
          omega
    · rw [decide_eq_false ho,Bool.and_false] at hg
      exact ⟨([],false),Ev.bindc rfl (Ev.bind hg (Ev.neg (by decide) (Ev.pure _))),by rw [decide_eq_false ho,Bool.and_false];exact Ev.pure _,by simp⟩
theorem pure_FnExactBestSplit (l0:List LN) (a1:ByteArray) (hl_l0:l0.length≤maxLen) (hI_l0:∀ x ∈ l0,I64 x.f0∧I64 x.f1) (hw_a1:a1.size≤140737488351232):∃ k,laws_FnExactBestSplit.f k l0 a1=some true:=by
  refine Ev.ex ?_
  unfold laws_FnExactBestSplit.f
  by_cases hs1:(a1.size:Int) > 1048576
  · exact Ev.pos hs1 (Ev.pure _)
  refine Ev.neg hs1 ?_
  by_cases h_l0:l0.length≤1048576
  case neg=>exact Ev.bindc (szTrie_eq l0 (by unfold maxLen at hl_l0;omega)) (by rw [if_neg h_l0];exact Ev.pos (by decide) (Ev.pure _))
  refine Ev.bindc (szTrie_eq l0 (by unfold maxLen at hl_l0;omega)) ?_
  rw [if_pos h_l0]
  refine Ev.neg (by omega) ?_
  have ht_l0:=toTrie_ev l0 (by omega)
  have hc_l0:(cv l0).length≤1048576:=by rw [cv_length];omega
  obtain ⟨r,e1,e2,hr⟩:=both_BestSplit (cv l0) a1
  have hq:=eqStringS_ev r.1 r.1 hr
  refine (Ev.bind ht_l0 (Ev.bind e1 (Ev.bind ht_l0 (Ev.bind e2 (Ev.bind hq (Ev.pos (by simp) (Ev.succ ?_)))))))
  simp only [laws_FnExactBestSplit.j0]
  obtain ⟨m,hm⟩:=markTrie_ev (cv l0) hc_l0
  refine Ev.neg (by simp) (Ev.bind ht_l0 (Ev.bind (eqTrie_ev _ _ hc_l0) (Ev.pos (by simp) (Ev.bind hm (Ev.neg (by simp only;omega) (Ev.bind hq (Ev.pos (by simp) (Ev.succ ?_))))))))
  simp only [laws_FnExactBestSplit.j1]
  obtain ⟨ms,hs1,hs2⟩:=markS_ev r.1 hr
  refine Ev.neg (by simp) (Ev.bind hs1 (Ev.bind hs2 (Ev.neg (by omega) (Ev.pos rfl (Ev.bind ht_l0 (Ev.bind e2 (Ev.bind hq (Ev.pos (by simp) (Ev.succ ?_)))))))))
  simp only [laws_FnExactBestSplit.j2]
  exact Ev.neg (by simp) (Ev.bind hs2 (Ev.neg (by omega) (Ev.pos rfl (Ev.pure _))))
end Go.Proofs.YtadpmgdmiaoniaaGreatDoor.Q
namespace Go.Proofs.YtadpmgdmiaoniaaGreatDoor.Pure
theorem FnExactBestSplit (l0:List Q.LN) (a1:ByteArray) (hl_l0:l0.length≤maxLen) (hI_l0:∀ x ∈ l0,Q.I64 x.f0∧Q.I64 x.f1) (hw_a1:a1.size≤140737488351232):∃ k,Q.laws_FnExactBestSplit.f k l0 a1=some true:=Q.pure_FnExactBestSplit l0 a1 hl_l0 hI_l0 hw_a1
end Go.Proofs.YtadpmgdmiaoniaaGreatDoor.Pure
namespace Go.Proofs.YtadpmgdmiaoniaaGreatDoor.fnExactBestSplit
open Go.ChangeShapes Go.WideShapes Go.ChangeAt Go.RowKit
open Go.ChangeMaps (open_string shut_string)
set_option linter.unusedVariables false
theorem own:ownKnob Tryz.prog.godebug=none:=by kernel_rfl
theorem laidOut:laidOutB Tryz.prog=true:=by kernel_rfl
set_option maxRecDepth 100000 in
theorem lifted (os:Os) (started:os.Started) (H:Type) (enc:TypeId × Value→H) :
    ReturnsInHanded {} Tryz.checked os 5 .any (fun w args=>(Rows.fnExactBestSplitSpec.pre enc Tryz.prog Tryz.f5 Rows.fnExactBestSplitRow.domain false w args∧laidMetH Tryz.prog Rows.fnExactBestSplitRow.laid w)∧sizedMet enc Tryz.prog Tryz.f5 (OpenSpec.ofChange Rows.fnExactBestSplitSpec) false w args) (Rows.fnExactBestSplitSpec.post enc Tryz.prog Tryz.f5 false true false false):=by
  refine returnsInHanded_of_change_and (C:=Tryz.checked) (X:=fun w _=>laidMetH Tryz.prog Rows.fnExactBestSplitRow.laid w) (fun _ _ _ hh h=>h.of_heap hh) own started (by kernel_rfl) Tryz.func5
    (ChangeSpec.witness_shaped (enc:=enc) (C:=Tryz.checked) (os:=os) (X:=fun w _=>laidMetH Tryz.prog Rows.fnExactBestSplitRow.laid w) false (World.laidAll Tryz.prog os Rows.fnExactBestSplitRow.laid) #[.agg #[.slice none 0 0],.string ByteArray.empty] 8 (World.laidAll_os _ _ _)
      (World.shaped_of_ZipB (by kernel_rfl) (by kernel_rfl)) (by kernel_rfl) (by kernel_rfl) (by kernel_rfl)
      (by rw [MakeChecks.laidMetH_plain _ _ _ (by kernel_rfl)];exact laidMet_laidAll _ (by kernel_rfl) (by kernel_rfl))) ?_
  intro W base args ds gs before hval0 hW hcnd hsz0 hL _
  have hsz:(DataW.weightsEach Tryz.prog (Tryz.f5.params.toList ++ Rows.fnExactBestSplitSpec.plain.varTypes Tryz.prog) (ds ++ gs)).all (·≤reachBytes)=true:=hsz0
  have hval:∀ (j:Nat) t v,Tryz.f5.params[j]?=some t→args[j]?=some v→Value.okWide Tryz.prog W .any base t v:=hval0
  have hW':=hW
  obtain ⟨p,q,hA0,hV,rfl,hfz,hnd⟩:=hW
  have hA:DataW.TrodAll enc Tryz.prog W 0 (fun _=>true) true Tryz.f5.params.toList args.toList ds p:=hA0
  rw [Tryz.params5] at hA hval hsz
  obtain ⟨v0,vs0,d0,ds0,p0,q0,hargs,rfl,rfl,h0,r0⟩:=trodAll_cons hA
  obtain ⟨v1,vs1,d1,ds1,p1,q1,rfl,rfl,rfl,h1,r1⟩:=trodAll_cons r0
  obtain ⟨rfl,rfl,rfl⟩:=trodAll_nil r1
  obtain rfl:args=#[v0,v1]:=by cases args;simp_all
  obtain ⟨rfl,rfl⟩:=trodVars_none hV
  have k0:=h0
  have lt0:∀ x ∈ p0,x.block<W.heap.size:=by obtain ⟨m,hm⟩:=k0;exact DataW.trod_lt m _ _ _ hm
  obtain ⟨A0,c0,l0,rfl,hC0,hc0,hl0,hI0⟩:=Q.open_trie (hval 0 24 v0 rfl rfl) h0
  obtain ⟨a1,rfl,rfl,rfl,y1⟩:=open_string Tryz.underlying9 (hval 1 9 v1 rfl rfl) h1
  have w1:a1.size≤140737488351232:=by
    have z:=sized_string hsz (j:=1) (t:=9) rfl rfl
    rw [Array.length_toList] at z
    exact z
  clear hA0 hval0 hsz0 hsz
  obtain ⟨k,hk⟩:=Pure.FnExactBestSplit l0 a1 hl0 hI0 w1
  refine (Q.laws_FnExactBestSplit.calls k A0 c0 l0 a1 true W hC0 hc0 hk).mono fun e W' ⟨he,bel0⟩=>?_
  have bel:Below W.heap.size W W':=bel0
  subst he
  exact ⟨_,rfl,_,_,_,[],_,[],hW',trodAll_mk1 (shut_bool Tryz.underlying4 _),(trodAll_cons_mk (Below.trod laidOut (by kernel_rfl) (of_decide_eq_true (by kernel_rfl)) k0 bel lt0) (trodAll_cons_mk (shut_string Tryz.underlying9 y1) trodAll_mk0)),rfl,bel.frame _,fun h=>by cases h⟩
theorem over:Rows.fnExactBestSplitRow.holds Tryz.pinned (OpenSpec.ofChange Rows.fnExactBestSplitSpec) :=
  OpenClaim.holds_of_wide 5 Tryz.f5 rfl rfl rfl rfl rfl rfl rfl ⟨rfl,rfl,rfl,rfl,rfl⟩ rfl rfl rfl rfl rfl (by kernel_rfl) Tryz.func5 (by kernel_rfl)
    (of_decide_eq_true (by kernel_rfl)) (by unfold Func.isWrapper;first|(rw [if_pos (by decide +kernel)];kernel_rfl)|(rw [if_neg (by decide +kernel)];exact ⟨rfl,rfl⟩))
    (fun os started H enc _=>lifted os started H enc)
set_option maxRecDepth 100000 in
theorem proved:Rows.FnExactBestSplitCardSaid :=
  Claim7.holds_tied_plain_at .later [] [.data, .pinned] true (true, "a66be70c566b356ec5f8f9c514f9a383c5bdb47e0ee55bd527b57172c946a720") false over (fun _ h => by cases h) (by kernel_rfl) (fun _ h => by cases h) fnExactBestSplit_row_tie rfl ⟨rfl, rfl⟩ (by kernel_rfl) rfl
    (fun f fn hf hfn=>by
      obtain rfl:f=5:=Option.some.inj ((show Tryz.prog.funcNamed Tryz.f5.name=some 5 by kernel_rfl).symm.trans hf) |>.symm
      obtain rfl:fn=Tryz.f5:=(Option.some.inj (Tryz.func5.symm.trans hfn)).symm
      exact ⟨by kernel_rfl,fun j t ht=>by
        rw [Tryz.params5] at ht
        have hm:t ∈ [24,9]:=by simpa using Array.mem_of_getElem? ht
        have hall:([24,9].all fun u=>!Tryz.prog.wantsStandIn u)=true:=by kernel_rfl
        exact (show Tryz.prog.wantsStandIn t=false by simpa using List.all_eq_true.1 hall t hm)⟩)
    (by kernel_rfl)
end Go.Proofs.YtadpmgdmiaoniaaGreatDoor.fnExactBestSplit
namespace Go.Proofs.YtadpmgdmiaoniaaGreatDoor
theorem fnExactBestSplit_holds:Rows.FnExactBestSplitCardSaid:=fnExactBestSplit.proved
end Go.Proofs.YtadpmgdmiaoniaaGreatDoor
